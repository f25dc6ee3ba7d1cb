import PyProof.Rows.All
import Wide.All
import OpenK.AllK
import Wide.FinOn
import HandS.ForMost
import HandS.Lambda
import KE.SortData
import KE.DataEq
import KE.DataCmp
import PyProof.ReprReads
import HandS.Wide
import HandS.TupAny
import HandS.TupMul
import HandS.Style
import HandS.IsInst
import HandS.SortInts
import HandS.More
import HandS.Conv
import HandS.TupLen
import HandS.WordsDict
import PyProof.ReprRoads
import KE.KDictWalk
import PyProof.Transfer
import PyProof.DictUpdate
import KE.KDictCopyH
import KE.KDictPairs
import HandS.DictComp
import HandS.Small
import HandS.Exc
import HandS.ExcCtx
import HandS.Iter
import HandS.Rev
import KE.GoesEnum
import HandS.DictTup
import HandS.Star
import HandS.Hot
import HandS.ExcInit
import HandS.Defaults
import HandS.HeadWalk
import HandS.ExcIs
import HandS.ExcField
import KE.KExcIs
import HandS.HeadHook4
import HandS.Head0
import HandS.Head1
import HandS.Head2
import PySem.Challenge.RW_nolawtells_k06_webs_nets_and_moral_links
section
set_option Elab.async false
set_option linter.all false
set_option maxRecDepth 100000
set_option maxHeartbeats 4000000
/-! Frozen data, mutable cells, worlds: what an abstract heap holds, in plain data. -/
namespace NL
open PySem PySem.Spec PyProof.Rows L2

/-- i < n, decided without counting down -/
def ltB (i : Int) (n : Nat) : Bool := match i with
  | .ofNat k => Nat.blt k n
  | .negSucc _ => true
theorem ltB_of {i : Int} {n : Nat} (h : ltB i n = true) : i < (n : Int) := by
  unfold ltB at h
  split at h
  · have := Nat.le_of_ble_eq_true h
    exact Int.ofNat_lt.mpr this
  · omega
theorem ltB_ok {i : Int} {n : Nat} (h : i < (n : Int)) : ltB i n = true := by
  unfold ltB
  split
  · exact Nat.ble_eq_true_of_le (Int.ofNat_lt.mp h)
  · rfl
def small62 (i : Int) : Bool := ltB i (2 ^ 62) && ltB (-i) (2 ^ 62 + 1)
theorem p62 : ((2 ^ 62 : Nat) : Int) = 2 ^ 62 := by norm_cast
theorem small62_ok {i : Int} (h : small62 i = true) : -(2 ^ 62) ≤ i ∧ i < 2 ^ 62 := by
  obtain ⟨h1, h2⟩ := Bool.and_eq_true_iff.mp h
  have h1 := ltB_of h1
  have h2 := ltB_of h2
  have e1 := p62
  have e2 : ((2 ^ 62 + 1 : Nat) : Int) = 2 ^ 62 + 1 := by norm_cast
  rw [e1] at h1
  rw [e2] at h2
  omega
/-- a dict's content -/
inductive DC where
  | k (kvs : List (Key × PyData))
  | t (kvs : List (List Key × PyData))
/-- a mutable cell -/
inductive Cell where
  | l (xs : List PyData)
  | d (c : DC)
/-- a value: frozen data, a mutable cell, a frozen dict, the script, a thing that is only known by its place -/
inductive AV where
  | d (x : PyData)
  | r (l : Nat)
  | c (c : DC)
  | z (xs : List Int)
  | e (a : Addr)
abbrev Store := List Cell
abbrev Env := List (Option AV)

/-- a world: where the cells stand, which addresses are no frozen data's -/
structure Wd where
  al : List Addr
  rh : Addr → Prop
  /-- the exception that is held -/
  xa : Addr

/-- all that is tracked stays but the cells (and the code tables) -/
def Ext (al : List Addr) (H H' : Hp) : Prop := ∀ a o, H a = some o → a ∉ al → (∀ ps, o ≠ .tbl ps) → H' a = some o
theorem Ext.refl (al : List Addr) (H : Hp) : Ext al H H := fun _ _ h _ _ => h
theorem Ext.trans {al : List Addr} {H H1 H2 : Hp} (a : Ext al H H1) (b : Ext al H1 H2) : Ext al H H2 := fun c o h n t => b c o (a c o h n t) n t
theorem Ext.more {al bl : List Addr} {H H' : Hp} (a : Ext al H H') (s : ∀ x ∈ al, x ∈ bl) : Ext bl H H' := fun c o h n t => a c o h (fun z => n (s c z)) t
theorem Ext.upd {al : List Addr} {H : Hp} {p : Addr} {o : HO} (h : H p = none ∨ p ∈ al) : Ext al H (upd H p o) := fun c u e n _ => by
  have hc : c ≠ p := fun z => by
    subst z
    rcases h with h | h
    · rw [h] at e; cases e
    · exact n h
  rw [upd_ne hc]; exact e

mutual
/-- frozen data -/
inductive FD (K : PySem.W.Frag) (rh : Addr → Prop) (H : Hp) : V → PyData → Prop
  | non : FD K rh H .non .none
  | bl (b : Bool) : FD K rh H (.bl b) (.bool b)
  | int (i : Int) : FD K rh H (.int i) (.int i)
  | str (x : Str) : FD K rh H (.str x) (.str x)
  | lst {a : Addr} {xs : List V} {ds : List PyData} : H a = some (.lst xs) → ¬ rh a → FDs K rh H xs ds → FD K rh H (.ref a) (.list ds)
  | tup {a : Addr} {xs : List V} {ds : List PyData} : H a = some (.tup xs) → ¬ rh a → FDs K rh H xs ds → FD K rh H (.ref a) (.tuple ds)
inductive FDs (K : PySem.W.Frag) (rh : Addr → Prop) (H : Hp) : List V → List PyData → Prop
  | nil : FDs K rh H [] []
  | cons {v : V} {vs : List V} {d : PyData} {ds : List PyData} : FD K rh H v d → FDs K rh H vs ds → FDs K rh H (v :: vs) (d :: ds)
end
section
variable {K : PySem.W.Frag} {rh rh' : Addr → Prop} {H H' : Hp}
mutual
theorem FD.dp : ∀ {v : V} {d : PyData}, FD K rh H v d → Dp K H v d
  | _, _, .non => .non
  | _, _, .bl b => .bl b
  | _, _, .int i => .int i
  | _, _, .str x => .str x
  | _, _, .lst h _ a => .lst (SqL.of h) (FDs.dp a)
  | _, _, .tup h _ a => .tup (SqT.of h) (FDs.dp a)
theorem FDs.dp : ∀ {vs : List V} {ds : List PyData}, FDs K rh H vs ds → DpAll K H vs ds
  | _, _, .nil => .nil
  | _, _, .cons h t => .cons (FD.dp h) (FDs.dp t)
end
theorem sqL_ext {al : List Addr} {a : Addr} {xs : List V} (e : Ext al H H') (n : a ∉ al) (h : SqL K H a xs) : SqL K H' a xs := by
  rcases h with (h | ⟨o, h⟩) | h
  · exact .inl (.inl (e _ _ h n (fun _ z => by cases z)))
  · exact .inl (.inr ⟨o, e _ _ h n (fun _ z => by cases z)⟩)
  · exact .inr h
theorem sqT_ext {al : List Addr} {a : Addr} {xs : List V} (e : Ext al H H') (n : a ∉ al) (h : SqT K H a xs) : SqT K H' a xs := by
  rcases h with (h | ⟨o, h⟩) | h
  · exact .inl (.inl (e _ _ h n (fun _ z => by cases z)))
  · exact .inl (.inr ⟨o, e _ _ h n (fun _ z => by cases z)⟩)
  · exact .inr h
mutual
theorem FD.ext {al : List Addr} (e : Ext al H H') (s : ∀ a ∈ al, rh a) : ∀ {v : V} {d : PyData}, FD K rh H v d → FD K rh H' v d
  | _, _, .non => .non
  | _, _, .bl b => .bl b
  | _, _, .int i => .int i
  | _, _, .str x => .str x
  | _, _, .lst h n a => .lst (e _ _ h (fun z => n (s _ z)) (fun _ z => by cases z)) n (FDs.ext e s a)
  | _, _, .tup h n a => .tup (e _ _ h (fun z => n (s _ z)) (fun _ z => by cases z)) n (FDs.ext e s a)
theorem FDs.ext {al : List Addr} (e : Ext al H H') (s : ∀ a ∈ al, rh a) : ∀ {vs : List V} {ds : List PyData}, FDs K rh H vs ds → FDs K rh H' vs ds
  | _, _, .nil => .nil
  | _, _, .cons h t => .cons (FD.ext e s h) (FDs.ext e s t)
end
mutual
theorem FD.less (s : ∀ a, rh' a → rh a) : ∀ {v : V} {d : PyData}, FD K rh H v d → FD K rh' H v d
  | _, _, .non => .non
  | _, _, .bl b => .bl b
  | _, _, .int i => .int i
  | _, _, .str x => .str x
  | _, _, .lst h n a => .lst h (fun z => n (s _ z)) (FDs.less s a)
  | _, _, .tup h n a => .tup h (fun z => n (s _ z)) (FDs.less s a)
theorem FDs.less (s : ∀ a, rh' a → rh a) : ∀ {vs : List V} {ds : List PyData}, FDs K rh H vs ds → FDs K rh' H vs ds
  | _, _, .nil => .nil
  | _, _, .cons h t => .cons (FD.less s h) (FDs.less s t)
end
theorem FDs.length {vs : List V} {ds : List PyData} (h : FDs K rh H vs ds) : vs.length = ds.length := by
  induction ds generalizing vs with
  | nil => cases h; rfl
  | cons d ds ih => cases h with | cons h t => simp [ih t]
theorem FDs.append {vs ws : List V} {ds es : List PyData} (h : FDs K rh H vs ds) (g : FDs K rh H ws es) : FDs K rh H (vs ++ ws) (ds ++ es) := by
  induction ds generalizing vs with
  | nil => cases h; exact g
  | cons d ds ih => cases h with | cons h t => exact .cons h (ih t)
theorem FDs.get {vs : List V} {ds : List PyData} (h : FDs K rh H vs ds) {i : Nat} {d : PyData} (e : ds[i]? = some d) : ∃ v, vs[i]? = some v ∧ FD K rh H v d := by
  induction ds generalizing vs i with
  | nil => simp at e
  | cons d' ds ih =>
    cases h with
    | cons h t =>
      cases i with
      | zero => simp at e; subst e; exact ⟨_, rfl, h⟩
      | succ i =>
        obtain ⟨v, h1, h2⟩ := ih t (by simpa using e)
        exact ⟨v, by simpa using h1, h2⟩
theorem FDs.getV {vs : List V} {ds : List PyData} (h : FDs K rh H vs ds) {i : Nat} {v : V} (e : vs[i]? = some v) : ∃ d, ds[i]? = some d ∧ FD K rh H v d := by
  induction ds generalizing vs i with
  | nil => cases h; simp at e
  | cons d' ds ih =>
    cases h with
    | cons h t =>
      cases i with
      | zero => simp at e; subst e; exact ⟨_, rfl, h⟩
      | succ i =>
        obtain ⟨d, h1, h2⟩ := ih t (by simpa using e)
        exact ⟨d, by simpa using h1, h2⟩
theorem FDs.drop {vs : List V} {ds : List PyData} (h : FDs K rh H vs ds) (n : Nat) : FDs K rh H (vs.drop n) (ds.drop n) := by
  induction n generalizing vs ds with
  | zero => exact h
  | succ n ih => cases h with
    | nil => exact .nil
    | cons h t => exact ih t
theorem FDs.take {vs : List V} {ds : List PyData} (h : FDs K rh H vs ds) (n : Nat) : FDs K rh H (vs.take n) (ds.take n) := by
  induction n generalizing vs ds with
  | zero => exact .nil
  | succ n ih => cases h with
    | nil => exact .nil
    | cons h t => exact .cons h (ih t)
theorem FDs.set {vs : List V} {ds : List PyData} (h : FDs K rh H vs ds) {v : V} {d : PyData} (g : FD K rh H v d) (n : Nat) : FDs K rh H (vs.set n v) (ds.set n d) := by
  induction n generalizing vs ds with
  | zero => cases h with
    | nil => exact .nil
    | cons h t => exact .cons g t
  | succ n ih => cases h with
    | nil => exact .nil
    | cons h t => exact .cons h (ih t)
theorem FDs.eraseIdx {vs : List V} {ds : List PyData} (h : FDs K rh H vs ds) (n : Nat) : FDs K rh H (vs.eraseIdx n) (ds.eraseIdx n) := by
  induction n generalizing vs ds with
  | zero => cases h with
    | nil => exact .nil
    | cons h t => exact t
  | succ n ih => cases h with
    | nil => exact .nil
    | cons h t => exact .cons h (ih t)
theorem FDs.reverse {vs : List V} {ds : List PyData} (h : FDs K rh H vs ds) : FDs K rh H vs.reverse ds.reverse := by
  induction ds generalizing vs with
  | nil => cases h; exact .nil
  | cons d ds ih => cases h with | cons h t => simp only [List.reverse_cons]; exact (ih t).append (.cons h .nil)
theorem FDs.rep {vs : List V} {ds : List PyData} (h : FDs K rh H vs ds) (n : Nat) : FDs K rh H (List.replicate n vs).flatten (List.replicate n ds).flatten := by
  induction n with
  | zero => exact .nil
  | succ n ih => simp only [List.replicate_succ, List.flatten_cons]; exact h.append ih
end
end NL
end
section
set_option Elab.async false
set_option linter.all false
set_option maxRecDepth 100000
set_option maxHeartbeats 4000000
/-! Worlds held by an abstract heap; outcomes; what a reading asks of an outcome. -/
namespace NL
open PySem PySem.Spec PyProof.Rows L2

/-- what is fixed: the written part, the module's names, what else holds of every heap -/
structure Gc where
  K : PySem.W.Frag
  mg : Str → Option Value
  G : Hp → Prop
  xa : Addr
/-- lists and dicts may be written -/
def Wr : HO → Prop
  | .lst _ => True
  | .dK _ => True
  | .dT _ => True
  | _ => False
structure Gc.Ok (γ : Gc) : Prop where
  new : ∀ H p o, γ.G H → H p = none → γ.G (upd H p o)
  set : ∀ H p o o', γ.G H → H p = some o' → Wr o' → γ.G (upd H p o)

/-- a dict's content stands at a -/
def DcAt (K : PySem.W.Frag) (rh : Addr → Prop) (H : Hp) (a : Addr) : DC → Prop
  | .k kvs => ∃ ws : List (Key × V), H a = some (.dK ws) ∧ Paired (fun p q => p.1 = q.1 ∧ FD K rh H p.2 q.2) ws kvs
  | .t kvs => ∃ ws : List (List Key × V), H a = some (.dT ws) ∧ Paired (fun p q => p.1 = q.1 ∧ FD K rh H p.2 q.2) ws kvs
def CellAt (K : PySem.W.Frag) (rh : Addr → Prop) (H : Hp) (a : Addr) : Cell → Prop
  | .l xs => ∃ vs, H a = some (.lst vs) ∧ FDs K rh H vs xs
  | .d c => DcAt K rh H a c
/-- the script: known, or an object of the module -/
def ZAt (K : PySem.W.Frag) (rh : Addr → Prop) (H : Hp) (a : Addr) (xs : List V) : Prop := (¬ rh a ∧ Rd H a (.lst xs)) ∨ ∀ G, SqL K G a xs
def ConV (K : PySem.W.Frag) (w : Wd) (H : Hp) : AV → V → Prop
  | .d x, v => FD K w.rh H v x
  | .r l, v => ∃ a, w.al[l]? = some a ∧ v = .ref a
  | .c c, v => ∃ a, v = .ref a ∧ ¬ w.rh a ∧ DcAt K w.rh H a c
  | .z xs, v => ∃ a, v = .ref a ∧ ZAt K w.rh H a (xs.map V.int)
  | .e _, v => v = .ref w.xa
structure ConS (γ : Gc) (w : Wd) (st : Store) (H : Hp) : Prop where
  len : w.al.length = st.length
  nd : w.al.Nodup
  sub : ∀ a ∈ w.al, w.rh a
  trk : ∀ a, w.rh a → ∃ o, H a = some o ∧ Wr o
  cell : ∀ (l : Nat) (a : Addr) (c : Cell), w.al[l]? = some a → st[l]? = some c → CellAt γ.K w.rh H a c
  glob : γ.G H
  xa : w.xa = γ.xa
def ConVs (K : PySem.W.Frag) (w : Wd) (H : Hp) : List AV → List V → Prop := Paired (ConV K w H)
structure ConE (K : PySem.W.Frag) (w : Wd) (H : Hp) (a : Env) (σ : L2.St) : Prop where
  len : a.length = σ.length
  at_ : ∀ (i : Nat) (v : AV), a[i]? = some (some v) → ∃ u, σ[i]? = some (some u) ∧ ConV K w H v u

section
variable {γ : Gc} {K : PySem.W.Frag} {w : Wd} {st st' : Store} {H H' : Hp}
theorem paired_imp {α β : Type} {F G : α → β → Prop} {xs : List α} {ys : List β} (h : Paired F xs ys) (f : ∀ a b, F a b → G a b) : Paired G xs ys := Paired.mapP h f
theorem DcAt.ext {rh : Addr → Prop} {al : List Addr} (e : Ext al H H') (s : ∀ a ∈ al, rh a) {a : Addr} (n : a ∉ al) : ∀ {c : DC}, DcAt K rh H a c → DcAt K rh H' a c
  | .k _, ⟨ws, h, p⟩ => ⟨ws, e _ _ h n (fun _ z => by cases z), paired_imp p fun _ _ q => ⟨q.1, FD.ext e s q.2⟩⟩
  | .t _, ⟨ws, h, p⟩ => ⟨ws, e _ _ h n (fun _ z => by cases z), paired_imp p fun _ _ q => ⟨q.1, FD.ext e s q.2⟩⟩
theorem DcAt.less {rh rh' : Addr → Prop} (s : ∀ a, rh' a → rh a) {a : Addr} : ∀ {c : DC}, DcAt K rh H a c → DcAt K rh' H a c
  | .k _, ⟨ws, h, p⟩ => ⟨ws, h, paired_imp p fun _ _ q => ⟨q.1, FD.less s q.2⟩⟩
  | .t _, ⟨ws, h, p⟩ => ⟨ws, h, paired_imp p fun _ _ q => ⟨q.1, FD.less s q.2⟩⟩
theorem CellAt.less {rh rh' : Addr → Prop} (s : ∀ a, rh' a → rh a) {a : Addr} : ∀ {c : Cell}, CellAt K rh H a c → CellAt K rh' H a c
  | .l _, ⟨vs, h, p⟩ => ⟨vs, h, FDs.less s p⟩
  | .d _, h => DcAt.less s h
/-- a cell whose own object stays, its world's data kept -/
theorem CellAt.keep {rh : Addr → Prop} {al : List Addr} (e : Ext al H H') (s : ∀ a ∈ al, rh a) {a : Addr} (k : ∀ o, H a = some o → H' a = some o) : ∀ {c : Cell}, CellAt K rh H a c → CellAt K rh H' a c
  | .l _, ⟨vs, h, p⟩ => ⟨vs, k _ h, FDs.ext e s p⟩
  | .d (.k _), ⟨ws, h, p⟩ => ⟨ws, k _ h, paired_imp p fun _ _ q => ⟨q.1, FD.ext e s q.2⟩⟩
  | .d (.t _), ⟨ws, h, p⟩ => ⟨ws, k _ h, paired_imp p fun _ _ q => ⟨q.1, FD.ext e s q.2⟩⟩
theorem CellAt.wr {rh : Addr → Prop} {a : Addr} : ∀ {c : Cell}, CellAt K rh H a c → ∃ o, H a = some o ∧ Wr o
  | .l _, ⟨vs, h, p⟩ => ⟨_, h, trivial⟩
  | .d (.k _), ⟨ws, h, p⟩ => ⟨_, h, trivial⟩
  | .d (.t _), ⟨ws, h, p⟩ => ⟨_, h, trivial⟩
theorem ZAt.sq {rh : Addr → Prop} {a : Addr} {xs : List V} (h : ZAt K rh H a xs) : SqL K H a xs := h.elim (fun h => .inl h.2) fun h => h H
theorem ZAt.ext {rh : Addr → Prop} {al : List Addr} (e : Ext al H H') (s : ∀ a ∈ al, rh a) {a : Addr} {xs : List V} (h : ZAt K rh H a xs) : ZAt K rh H' a xs := by
  rcases h with ⟨n, h | ⟨o, h⟩⟩ | h
  · exact .inl ⟨n, .inl (e _ _ h (fun z => n (s _ z)) (fun _ z => by cases z))⟩
  · exact .inl ⟨n, .inr ⟨o, e _ _ h (fun z => n (s _ z)) (fun _ z => by cases z)⟩⟩
  · exact .inr h
theorem ConV.ext (e : Ext w.al H H') (s : ∀ a ∈ w.al, w.rh a) : ∀ {x : AV} {v : V}, ConV K w H x v → ConV K w H' x v
  | .d _, _, h => FD.ext e s h
  | .r _, _, h => h
  | .c _, _, ⟨a, h1, h2, h3⟩ => ⟨a, h1, h2, DcAt.ext e s (fun z => h2 (s _ z)) h3⟩
  | .z _, _, ⟨a, h1, h2⟩ => ⟨a, h1, h2.ext e s⟩
  | .e _, _, h => h
theorem ConVs.ext (e : Ext w.al H H') (s : ∀ a ∈ w.al, w.rh a) {xs : List AV} {vs : List V} (h : ConVs K w H xs vs) : ConVs K w H' xs vs := paired_imp h fun _ _ q => ConV.ext e s q
theorem ConE.ext (e : Ext w.al H H') (s : ∀ a ∈ w.al, w.rh a) {a : Env} {σ : L2.St} (h : ConE K w H a σ) : ConE K w H' a σ :=
  ⟨h.len, fun i v hv => let ⟨u, h1, h2⟩ := h.at_ i v hv; ⟨u, h1, ConV.ext e s h2⟩⟩
theorem ConS.fresh (c : ConS γ w st H) {p : Addr} (h : H p = none) : ¬ w.rh p := fun z => by
  obtain ⟨o, e, _⟩ := c.trk p z
  rw [h] at e; cases e
theorem ConS.tupFree (c : ConS γ w st H) {p : Addr} {xs : List V} (h : H p = some (.tup xs)) : ¬ w.rh p := fun z => by
  obtain ⟨o, e, q⟩ := c.trk p z
  rw [h] at e; cases e; exact q
/-- a new object is laid -/
theorem ConS.laid (g : γ.Ok) (c : ConS γ w st H) {p : Addr} {o : HO} (h : H p = none) : ConS γ w st (upd H p o) ∧ Ext w.al H (upd H p o) := by
  have e : Ext w.al H (upd H p o) := Ext.upd (.inl h)
  refine ⟨⟨c.len, c.nd, c.sub, fun a ha => ?_, fun l a cl h1 h2 => ?_, g.new _ _ _ c.glob h, c.xa⟩, e⟩
  · obtain ⟨u, hu, q⟩ := c.trk a ha
    exact ⟨u, by rw [upd_ne (ne_of_none hu h)]; exact hu, q⟩
  · exact (c.cell l a cl h1 h2).keep e c.sub fun o' ho => by rw [upd_ne (ne_of_none ho h)]; exact ho
/-- a cell is written -/
theorem ConS.write (g : γ.Ok) (c : ConS γ w st H) {l : Nat} {a : Addr} {cl : Cell} {o : HO} (h1 : w.al[l]? = some a) (h2 : l < st.length) (new : CellAt γ.K w.rh (upd H a o) a cl) :
    ConS γ w (st.set l cl) (upd H a o) ∧ Ext w.al H (upd H a o) := by
  have ha : a ∈ w.al := List.mem_of_getElem? h1
  have e : Ext w.al H (upd H a o) := Ext.upd (.inr ha)
  obtain ⟨old, ho, hw⟩ : ∃ o', H a = some o' ∧ Wr o' := by
    have := c.cell l a _ h1 (List.getElem?_eq_getElem h2)
    exact this.wr
  refine ⟨⟨by rw [List.length_set]; exact c.len, c.nd, c.sub, fun b hb => ?_, fun m b cm h3 h4 => ?_, g.set _ _ _ _ c.glob ho hw, c.xa⟩, e⟩
  · obtain ⟨u, hu, q⟩ := c.trk b hb
    by_cases hba : b = a
    · subst hba
      obtain ⟨o2, ho2, q2⟩ := new.wr
      exact ⟨o2, ho2, q2⟩
    · exact ⟨u, by rw [upd_ne hba]; exact hu, q⟩
  · by_cases hm : m = l
    · subst hm
      rw [h1] at h3; cases h3
      rw [List.getElem?_set_self h2] at h4; cases h4
      exact new
    · rw [List.getElem?_set_ne (Ne.symm hm)] at h4
      have hba : b ≠ a := fun z => by
        subst z
        obtain ⟨hm1, e1⟩ := List.getElem?_eq_some_iff.mp h3
        obtain ⟨hl1, e2⟩ := List.getElem?_eq_some_iff.mp h1
        exact hm ((List.getElem_inj c.nd).mp (e1.trans e2.symm))
      exact (c.cell m b cm h3 h4).keep e c.sub fun o' ho' => by rw [upd_ne hba]; exact ho'
end

/-! ### outcomes -/
inductive Out (α : Type) where
  | ok (a : α) (st : Store)
  | exc (n : Str) (x : PyData) (st : Store)
  | stuck
def Out.bind {α β : Type} (o : Out α) (k : α → Store → Out β) : Out β := match o with
  | .ok a st => k a st
  | .exc n x st => .exc n x st
  | .stuck => .stuck
@[simp] theorem Out.bind_ok {α β : Type} (a : α) (st : Store) (k : α → Store → Out β) : (Out.ok a st).bind k = k a st := rfl
@[simp] theorem Out.bind_exc {α β : Type} (n : Str) (x : PyData) (st : Store) (k : α → Store → Out β) : (Out.exc n x st : Out α).bind k = .exc n x st := rfl
@[simp] theorem Out.bind_stuck {α β : Type} (k : α → Store → Out β) : (Out.stuck : Out α).bind k = .stuck := rfl
theorem Out.bind_assoc {α β δ : Type} (o : Out α) (k : α → Store → Out β) (m : β → Store → Out δ) : (o.bind k).bind m = o.bind fun a st => (k a st).bind m := by cases o <;> rfl
def Out.lift {α : Type} (o : Option α) (st : Store) : Out α := match o with
  | some a => .ok a st
  | none => .stuck

/-- an exception as it is told -/
def ExcR (γ : Gc) (w : Wd) (H : Hp) (n : Str) (x : PyData) (cls : Value) (d : Option Addr) : Prop :=
  γ.mg n = some cls ∧ ∃ dd v, d = some dd ∧ H dd = some (.xd [(("what" : Str), v)]) ∧ FD γ.K w.rh H v x
/-- what a reading asks of an outcome: every heap that holds it leads on -/
def Good (γ : Gc) (w : Wd) (H : Hp) (E : XK) {α β : Type} (R : Hp → α → β → Prop) (Q : β → Hp → Prop) : Out α → Prop
  | .ok v st => ∀ u H', Ext w.al H H' → ConS γ w st H' → R H' v u → Q u H'
  | .exc n x st => ∀ cls d H', Ext w.al H H' → ConS γ w st H' → ExcR γ w H' n x cls d → E cls d H'
  | .stuck => False
abbrev RV (γ : Gc) (w : Wd) : Hp → AV → V → Prop := fun H => ConV γ.K w H
abbrev RVs (γ : Gc) (w : Wd) : Hp → List AV → List V → Prop := fun H => ConVs γ.K w H
abbrev RB : Hp → Bool → Bool → Prop := fun _ a b => a = b
section
variable {γ : Gc} {w : Wd} {H H1 : Hp} {E : XK} {α β α' β' : Type} {R : Hp → α → β → Prop} {R' : Hp → α' → β' → Prop} {Q : β → Hp → Prop} {Q' : β' → Hp → Prop}
theorem Good.shift {o : Out α} (h : Good γ w H E R Q o) (e : Ext w.al H H1) : Good γ w H1 E R Q o := by
  cases o with
  | ok v st => exact fun u H' e' c r => h u H' (e.trans e') c r
  | exc n x st => exact fun cls d H' e' c r => h cls d H' (e.trans e') c r
  | stuck => exact h
/-- the first step of two -/
theorem Good.bind {o : Out α} {k : α → Store → Out α'} (h : Good γ w H E R' Q' (o.bind k)) (step : ∀ v st u H1, Ext w.al H H1 → ConS γ w st H1 → R H1 v u → Good γ w H1 E R' Q' (k v st) → Q u H1) : Good γ w H E R Q o := by
  cases o with
  | ok v st => exact fun u H' e c r => step v st u H' e c r (Good.shift h e)
  | exc n x st => exact h
  | stuck => exact h
theorem Good.imp {Q2 : β → Hp → Prop} {o : Out α} (h : Good γ w H E R Q o) (f : ∀ u H', Ext w.al H H' → Q u H' → Q2 u H') : Good γ w H E R Q2 o := by
  cases o with
  | ok v st => exact fun u H' e c r => f u H' e (h u H' e c r)
  | exc n x st => exact h
  | stuck => exact h
/-- the end of an outcome that is there -/
theorem Good.done {v : α} {st : Store} {u : β} (h : Good γ w H E R Q (.ok v st)) (c : ConS γ w st H) (r : R H v u) : Q u H := h u H (Ext.refl _ _) c r
end

/-! ### readings -/
def RdE (γ : Gc) (E : XK) (f : Env → Store → Out AV) (t : TE) : Prop := ∀ (w : Wd) (st : Store) (a : Env) (σ : L2.St) (H : Hp) (Q : VK), ConS γ w st H → ConE γ.K w H a σ → Good γ w H E (RV γ w) Q (f a st) → t σ H Q
def RdT (γ : Gc) (E : XK) (f : Env → Store → Out Bool) (t : TT) : Prop := ∀ (w : Wd) (st : Store) (a : Env) (σ : L2.St) (H : Hp) (Q : Bool → Hp → Prop), ConS γ w st H → ConE γ.K w H a σ → Good γ w H E RB Q (f a st) → t σ H Q
def RdA (γ : Gc) (E : XK) (f : Env → Store → Out (List AV)) (t : TA) : Prop := ∀ (w : Wd) (st : Store) (a : Env) (σ : L2.St) (H : Hp) (Q : List V → Hp → Prop), ConS γ w st H → ConE γ.K w H a σ → Good γ w H E (RVs γ w) Q (f a st) → t σ H Q
end NL
end
section
set_option Elab.async false
set_option linter.all false
set_option maxRecDepth 100000
set_option maxHeartbeats 4000000
/-! Operations on values: what they give, and that the rules' readings follow. -/
namespace NL
open PySem PySem.Spec PyProof.Rows L2

/-! ### a value seen as data -/
def vw (st : Store) : AV → Option PyData
  | .d x => some x
  | .r l => match st[l]? with
    | some (.l xs) => some (.list xs)
    | _ => none
  | _ => none
def ls (st : Store) (x : AV) : Option (List PyData) := match vw st x with
  | some (.list xs) => some xs
  | _ => none
def sq (st : Store) (x : AV) : Option (List PyData) := match vw st x with
  | some (.list xs) => some xs
  | some (.tuple xs) => some xs
  | _ => none
section
variable {γ : Gc} {w : Wd} {st : Store} {H : Hp} {x : AV} {u : V}
mutual
theorem FD.plain {K : PySem.W.Frag} {rh : Addr → Prop} : ∀ {v : V} {d : PyData}, FD K rh H v d → d.plain = true
  | _, _, .non => rfl
  | _, _, .bl b => rfl
  | _, _, .int i => rfl
  | _, _, .str x => rfl
  | _, _, .lst _ _ a => by rw [PyData.plain]; exact FDs.plain a
  | _, _, .tup _ _ a => by rw [PyData.plain]; exact FDs.plain a
theorem FDs.plain {K : PySem.W.Frag} {rh : Addr → Prop} : ∀ {vs : List V} {ds : List PyData}, FDs K rh H vs ds → PyData.plainAll ds = true
  | _, _, .nil => rfl
  | _, _, .cons h t => by rw [PyData.plainAll, FD.plain h, FDs.plain t]; rfl
end
theorem ls_at (c : ConS γ w st H) (r : ConV γ.K w H x u) {xs : List PyData} (h : ls st x = some xs) : ∃ a vs, u = .ref a ∧ H a = some (.lst vs) ∧ FDs γ.K w.rh H vs xs := by
  unfold ls at h
  split at h
  · rename_i ys e
    cases h
    unfold vw at e
    split at e
    · cases e
      have r' : FD γ.K w.rh H u (.list xs) := r
      cases r' with | lst h1 h2 h3 => exact ⟨_, _, rfl, h1, h3⟩
    · split at e
      · rename_i l zs e2
        cases e
        obtain ⟨a, h1, h2⟩ := r
        obtain ⟨vs, h3, h4⟩ := c.cell _ _ _ h1 e2
        exact ⟨a, vs, h2, h3, h4⟩
      · cases e
    · cases e
  · cases h
theorem sq_at (c : ConS γ w st H) (r : ConV γ.K w H x u) {xs : List PyData} (h : sq st x = some xs) : ∃ a vs, u = .ref a ∧ (H a = some (.lst vs) ∨ H a = some (.tup vs)) ∧ FDs γ.K w.rh H vs xs := by
  unfold sq at h
  split at h
  · rename_i ys e
    cases h
    obtain ⟨a, vs, h1, h2, h3⟩ := ls_at c r (xs := xs) (by unfold ls; rw [e])
    exact ⟨a, vs, h1, .inl h2, h3⟩
  · rename_i ys e
    cases h
    unfold vw at e
    split at e
    · cases e
      have r' : FD γ.K w.rh H u (.tuple xs) := r
      cases r' with | tup h1 h2 h3 => exact ⟨_, _, rfl, .inr h1, h3⟩
    · split at e
      · cases e
      · cases e
    · cases e
  · cases h
theorem vw_dp (c : ConS γ w st H) (r : ConV γ.K w H x u) {d : PyData} (h : vw st x = some d) : Dp γ.K H u d ∧ d.plain = true := by
  cases x with
  | d y =>
    cases h
    exact ⟨FD.dp r, FD.plain r⟩
  | r l =>
    have h0 := h
    unfold vw at h
    simp only at h
    split at h
    · rename_i xs e
      cases h
      obtain ⟨a, vs, rfl, h2, h3⟩ := ls_at c r (xs := xs) (by unfold ls; rw [h0])
      exact ⟨.lst (SqL.of h2) h3.dp, by rw [PyData.plain]; exact h3.plain⟩
    · cases h
  | c _ => cases h
  | z _ => cases h
  | e _ => cases h
theorem sq_sq {a : Addr} {vs : List V} {K : PySem.W.Frag} (h : H a = some (.lst vs) ∨ H a = some (.tup vs)) : SqL K H a vs ∨ SqT K H a vs := h.elim (fun h => .inl (SqL.of h)) (fun h => .inr (SqT.of h))
end

/-! ### new frozen objects -/
section
variable {γ : Gc} {w : Wd} {st : Store} {H : Hp} {p : Addr}
theorem new_tup (g : γ.Ok) (c : ConS γ w st H) {vs : List V} {xs : List PyData} (r : FDs γ.K w.rh H vs xs) (hp : H p = none) :
    Ext w.al H (upd H p (.tup vs)) ∧ ConS γ w st (upd H p (.tup vs)) ∧ ConV γ.K w (upd H p (.tup vs)) (.d (.tuple xs)) (.ref p) := by
  obtain ⟨c', e⟩ := c.laid g (o := .tup vs) hp
  exact ⟨e, c', FD.tup upd_same (c.fresh hp) (r.ext e c.sub)⟩
theorem new_lst (g : γ.Ok) (c : ConS γ w st H) {vs : List V} {xs : List PyData} (r : FDs γ.K w.rh H vs xs) (hp : H p = none) :
    Ext w.al H (upd H p (.lst vs)) ∧ ConS γ w st (upd H p (.lst vs)) ∧ ConV γ.K w (upd H p (.lst vs)) (.d (.list xs)) (.ref p) := by
  obtain ⟨c', e⟩ := c.laid g (o := .lst vs) hp
  exact ⟨e, c', FD.lst upd_same (c.fresh hp) (r.ext e c.sub)⟩
end

/-! ### two-place operations -/
def OpOk (γ : Gc) (f : Store → AV → AV → Option AV) (r : R2) : Prop :=
  ∀ (w : Wd) (st : Store) (H : Hp) (x y z : AV) (u v : V) (Q : VK), ConS γ w st H → ConV γ.K w H x u → ConV γ.K w H y v → f st x y = some z →
    (∀ q H', Ext w.al H H' → ConS γ w st H' → ConV γ.K w H' z q → Q q H') → r u v H Q
theorem OpOk.orE {γ : Gc} {f : Store → AV → AV → Option AV} {r r' : R2} (h : OpOk γ f r ∨ OpOk γ f r') : OpOk γ f (fun x y H Q => r x y H Q ∨ r' x y H Q) :=
  fun w st H x y z u v Q c a b e k => h.elim (fun h => .inl (h w st H x y z u v Q c a b e k)) (fun h => .inr (h w st H x y z u v Q c a b e k))
/-- one of several operations -/
def oneOf (f g : Store → AV → AV → Option AV) : Store → AV → AV → Option AV := fun st x y => match f st x y with
  | some z => some z
  | none => g st x y
theorem OpOk.one {γ : Gc} {f g : Store → AV → AV → Option AV} {r r' : R2} (h : OpOk γ f r) (h' : OpOk γ g r') : OpOk γ (oneOf f g) (fun x y H Q => r x y H Q ∨ r' x y H Q) :=
  fun w st H x y z u v Q c a b e k => by
    unfold oneOf at e
    split at e
    · rename_i z' e'
      cases e
      exact .inl (h w st H x y z u v Q c a b e' k)
    · exact .inr (h' w st H x y z u v Q c a b e k)
def onI (f : Int → Int → Option Int) : Store → AV → AV → Option AV := fun _ x y => match x, y with
  | .d (.int i), .d (.int j) => (f i j).map fun k => .d (.int k)
  | _, _ => none
theorem onI_ok {γ : Gc} {f : Int → Int → Option Int} {C : Int → Int → Prop} {g : Int → Int → Int} (h : ∀ i j k, f i j = some k → C i j ∧ k = g i j) : OpOk γ (onI f) (rI C fun i j => .int (g i j)) := by
  intro w st H x y z u v Q c a b e k
  unfold onI at e
  split at e
  · rename_i i j
    cases a
    cases b
    cases e' : f i j with
    | none => rw [e'] at e; cases e
    | some m =>
      rw [e'] at e
      cases e
      obtain ⟨h1, h2⟩ := h _ _ _ e'
      exact ⟨i, j, rfl, rfl, h1, k _ H (Ext.refl _ _) c (by rw [h2]; exact FD.int _)⟩
  · cases e
theorem onI0_ok {γ : Gc} {g : Int → Int → Int} : OpOk γ (onI fun i j => some (g i j)) (rI0 fun i j => .int (g i j)) := by
  intro w st H x y z u v Q c a b e k
  unfold onI at e
  split at e
  · cases a
    cases b
    cases e
    exact ⟨_, _, rfl, rfl, k _ H (Ext.refl _ _) c (FD.int _)⟩
  · cases e

def catT : Store → AV → AV → Option AV := fun _ x y => match x, y with
  | .d (.tuple xs), .d (.tuple ys) => if xs.length + ys.length ≤ sizeLine then some (.d (.tuple (xs ++ ys))) else none
  | _, _ => none
theorem catT_ok {γ : Gc} (g : γ.Ok) : OpOk γ catT (rCatA γ.K) := by
  intro w st H x y z u v Q c a b e k
  unfold catT at e
  split at e
  · rename_i xs ys
    split at e
    · rename_i hz
      cases e
      cases a with
      | tup h1 n1 f1 =>
        cases b with
        | tup h2 n2 f2 =>
          refine ⟨_, _, _, _, rfl, rfl, SqT.of h1, SqT.of h2, by rw [f1.length, f2.length]; exact hz, fun e => ?_, fun _ e => ?_, fun _ _ p hp => ?_⟩
          · subst e
            cases f1
            exact k _ H (Ext.refl _ _) c (FD.tup h2 n2 f2)
          · subst e
            cases f2
            exact k _ H (Ext.refl _ _) c (by rw [List.append_nil]; exact FD.tup h1 n1 f1)
          · obtain ⟨e1, c1, r1⟩ := new_tup g c (f1.append f2) hp
            exact k _ _ e1 c1 r1
    · cases e
  · cases e
def catS : Store → AV → AV → Option AV := fun _ x y => match x, y with
  | .d (.str a), .d (.str b) => if a.length + b.length ≤ sizeLine then some (.d (.str (a ++ b))) else none
  | _, _ => none
theorem catS_ok {γ : Gc} : OpOk γ catS (fun x y H Q => ∃ i j, x = .str i ∧ y = .str j ∧ i.length + j.length ≤ sizeLine ∧ Q (.str (i ++ j)) H) := by
  intro w st H x y z u v Q c a b e k
  unfold catS at e
  split at e
  · split at e
    · rename_i hz
      cases e
      cases a
      cases b
      exact ⟨_, _, rfl, rfl, hz, k _ H (Ext.refl _ _) c (FD.str _)⟩
    · cases e
  · cases e
def catL : Store → AV → AV → Option AV := fun st x y => match ls st x, ls st y with
  | some xs, some ys => if xs.length + ys.length ≤ sizeLine then some (.d (.list (xs ++ ys))) else none
  | _, _ => none
theorem catL_ok {γ : Gc} (g : γ.Ok) : OpOk γ catL rCat := by
  intro w st H x y z u v Q c a b e k
  unfold catL at e
  split at e
  · rename_i xs ys e1 e2
    split at e
    · rename_i hz
      cases e
      obtain ⟨l, vs, rfl, h1, f1⟩ := ls_at c a e1
      obtain ⟨m, ws, rfl, h2, f2⟩ := ls_at c b e2
      refine ⟨_, _, _, _, rfl, rfl, h1, h2, by rw [f1.length, f2.length]; exact hz, fun p hp => ?_⟩
      obtain ⟨e3, c3, r3⟩ := new_lst g c (f1.append f2) hp
      exact k _ _ e3 c3 r3
    · cases e
  · cases e
def fAdd := oneOf (onI fun i j => some (i + j)) (oneOf catT (oneOf catS catL))
def rAdd (K : PySem.W.Frag) : R2 := fun x y H Q => rI0 (fun i j => .int (i + j)) x y H Q ∨ rCatA K x y H Q ∨ (∃ i j, x = .str i ∧ y = .str j ∧ i.length + j.length ≤ sizeLine ∧ Q (.str (i ++ j)) H) ∨ rCat x y H Q
theorem fAdd_ok {γ : Gc} (g : γ.Ok) : OpOk γ fAdd (rAdd γ.K) := OpOk.one onI0_ok (OpOk.one (catT_ok g) (OpOk.one catS_ok (catL_ok g)))
theorem op_addA {X : Cx} : OpR X (binaryOp .Add) (rAdd X.K) := op_add.or (op_catA.or (op_add_str.or op_cat))

def fSub := onI fun i j => some (i - j)
theorem fSub_ok {γ : Gc} : OpOk γ fSub (rI0 fun i j => .int (i - j)) := onI0_ok

/-- numbers below 2 ^ 400000 -/
def bigOk (i : Int) : Bool := decide (i.natAbs.log2 < 400000)
def mulI := onI fun i j => if bigOk i && bigOk j then some (i * j) else none
theorem mulI_ok {γ : Gc} : OpOk γ mulI (rI CMulW fun i j => .int (i * j)) := onI_ok fun i j k h => by
  split at h
  · rename_i q
    cases h
    obtain ⟨q1, q2⟩ := Bool.and_eq_true_iff.mp q
    have h1 := of_decide_eq_true q1
    have h2 := of_decide_eq_true q2
    exact ⟨by unfold CMulW; omega, rfl⟩
  · cases h
def repL : Store → AV → AV → Option AV := fun st x y => match ls st x, y with
  | some xs, .d (.int k) => if k ≤ 100000 ∧ -100000 ≤ k ∧ xs.length * k.toNat ≤ sizeLine then some (.d (.list (List.replicate k.toNat xs).flatten)) else none
  | _, _ => none
theorem repL_ok {γ : Gc} (g : γ.Ok) : OpOk γ repL rRep := by
  intro w st H x y z u v Q c a b e k
  unfold repL at e
  split at e
  · rename_i xs n e1
    split at e
    · rename_i hz
      cases e
      obtain ⟨l, vs, rfl, h1, f1⟩ := ls_at c a e1
      cases b
      refine ⟨_, _, _, rfl, rfl, h1, by omega, by omega, by rw [f1.length]; exact hz.2.2, fun p hp => ?_⟩
      obtain ⟨e3, c3, r3⟩ := new_lst g c (f1.rep n.toNat) hp
      exact k _ _ e3 c3 r3
    · cases e
  · cases e
def repT : Store → AV → AV → Option AV := fun st x y => match x, y with
  | .d (.tuple xs), .d (.int k) => if xs ≠ [] ∧ 2 ≤ k ∧ k ≤ 1000 ∧ xs.length ≤ 1000 then some (.d (.tuple (List.replicate k.toNat xs).flatten)) else none
  | _, _ => none
theorem repT_ok {γ : Gc} (g : γ.Ok) : OpOk γ repT (rRepT γ.K) := by
  intro w st H x y z u v Q c a b e k
  unfold repT at e
  split at e
  · rename_i xs n
    split at e
    · rename_i hz
      cases e
      cases a with
      | tup h1 n1 f1 =>
        cases b
        refine ⟨_, _, _, rfl, rfl, SqT.of h1, fun z => ?_, hz.2.1, hz.2.2.1, by rw [f1.length]; exact hz.2.2.2, fun p hp => ?_⟩
        · subst z
          cases f1
          exact hz.1 rfl
        · obtain ⟨e3, c3, r3⟩ := new_tup g c (f1.rep n.toNat) hp
          exact k _ _ e3 c3 r3
    · cases e
  · cases e
def fMul := oneOf mulI (oneOf repL repT)
def rMul (K : PySem.W.Frag) : R2 := fun x y H Q => rI CMulW (fun i j => .int (i * j)) x y H Q ∨ rRep x y H Q ∨ rRepT K x y H Q
theorem fMul_ok {γ : Gc} (g : γ.Ok) : OpOk γ fMul (rMul γ.K) := OpOk.one mulI_ok (OpOk.one (repL_ok g) (repT_ok g))
theorem op_mulA {X : Cx} : OpR X (binaryOp .Mult) (rMul X.K) := op_mulW.or (op_rep.or op_repT)
def fDiv := onI fun i j => if 0 < j ∧ j.natAbs.log2 < 9000 then some (i / j) else none
theorem fDiv_ok {γ : Gc} : OpOk γ fDiv (rI CDivW fun i j => .int (i / j)) := onI_ok fun i j k h => by
  split at h
  · rename_i q; cases h; exact ⟨q, rfl⟩
  · cases h
def fMod := onI fun i j => if 0 < j then some (i % j) else none
theorem fMod_ok {γ : Gc} : OpOk γ fMod (rI (fun _ j => 0 < j) fun i j => .int (i % j)) := onI_ok fun i j k h => by
  split at h
  · rename_i q; cases h; exact ⟨q, rfl⟩
  · cases h
def fPow := onI fun i j => if 0 ≤ j ∧ j ≤ 1000000 ∧ i.natAbs < 2 ^ 64 then some (i ^ j.toNat) else none
theorem fPow_ok {γ : Gc} : OpOk γ fPow (rI CPow fun i j => .int (i ^ j.toNat)) := onI_ok fun i j k h => by
  split at h
  · rename_i q; cases h; exact ⟨q, rfl⟩
  · cases h

/-! ### comparisons -/
def onD (f : PyData → PyData → Option Bool) : Store → AV → AV → Option AV := fun st x y => match vw st x, vw st y with
  | some a, some b => (f a b).map fun k => .d (.bool k)
  | _, _ => none
def rD (K : PySem.W.Frag) (C : PyData → PyData → Prop) (g : PyData → PyData → Bool) : R2 := fun x y H Q => ∃ d e, Dp K H x d ∧ Dp K H y e ∧ d.plain = true ∧ e.plain = true ∧ C d e ∧ Q (.bl (g d e)) H
theorem onD_ok {γ : Gc} {f : PyData → PyData → Option Bool} {C : PyData → PyData → Prop} {g : PyData → PyData → Bool} (h : ∀ i j k, f i j = some k → C i j ∧ k = g i j) : OpOk γ (onD f) (rD γ.K C g) := by
  intro w st H x y z u v Q c a b e k
  unfold onD at e
  split at e
  · rename_i d1 d2 e1 e2
    obtain ⟨p1, q1⟩ := vw_dp c a e1
    obtain ⟨p2, q2⟩ := vw_dp c b e2
    cases e' : f d1 d2 with
    | none => rw [e'] at e; cases e
    | some m =>
      rw [e'] at e
      cases e
      obtain ⟨h1, h2⟩ := h _ _ _ e'
      exact ⟨d1, d2, p1, p2, q1, q2, h1, k _ H (Ext.refl _ _) c (by rw [h2]; exact FD.bl _)⟩
  · cases e
abbrev CEq : PyData → PyData → Prop := fun d e => min d.depth e.depth ≤ 60
abbrev CLt : PyData → PyData → Prop := fun d e => PySem.W.alike d e = true ∧ d ≠ .none ∧ min d.depth e.depth ≤ 60
def notNone : PyData → Bool
  | .none => false
  | _ => true
theorem notNone_ok {d : PyData} (h : notNone d = true) : d ≠ .none := fun z => by subst z; cases h
def fEq := onD fun d e => if min d.depth e.depth ≤ 60 then some (PyData.eqv d e) else none
def fNe := onD fun d e => if min d.depth e.depth ≤ 60 then some (!PyData.eqv d e) else none
def ltC (d e : PyData) : Bool := PySem.W.alike d e && notNone d && decide (min d.depth e.depth ≤ 60)
theorem ltC_ok {d e : PyData} (h : ltC d e = true) : CLt d e := by
  unfold ltC at h
  simp only [Bool.and_eq_true, decide_eq_true_eq] at h
  exact ⟨h.1.1, notNone_ok h.1.2, h.2⟩
def fLt := onD fun d e => if ltC d e then some (PySem.W.dataLt d e) else none
def fLe := onD fun d e => if ltC d e then some (!PySem.W.dataLt e d) else none
def fGt := onD fun d e => if ltC d e then some (PySem.W.dataLt e d) else none
def fGe := onD fun d e => if ltC d e then some (!PySem.W.dataLt d e) else none
theorem fEq_ok {γ : Gc} : OpOk γ fEq (rD γ.K CEq PyData.eqv) := onD_ok fun i j k h => by
  split at h
  · rename_i q; cases h; exact ⟨q, rfl⟩
  · cases h
theorem fNe_ok {γ : Gc} : OpOk γ fNe (rD γ.K CEq fun d e => !PyData.eqv d e) := onD_ok fun i j k h => by
  split at h
  · rename_i q; cases h; exact ⟨q, rfl⟩
  · cases h
theorem fLt_ok {γ : Gc} : OpOk γ fLt (rD γ.K CLt PySem.W.dataLt) := onD_ok fun i j k h => by
  split at h
  · rename_i q; cases h; exact ⟨ltC_ok q, rfl⟩
  · cases h
theorem fLe_ok {γ : Gc} : OpOk γ fLe (rD γ.K CLt fun d e => !PySem.W.dataLt e d) := onD_ok fun i j k h => by
  split at h
  · rename_i q; cases h; exact ⟨ltC_ok q, rfl⟩
  · cases h
theorem fGt_ok {γ : Gc} : OpOk γ fGt (rD γ.K CLt fun d e => PySem.W.dataLt e d) := onD_ok fun i j k h => by
  split at h
  · rename_i q; cases h; exact ⟨ltC_ok q, rfl⟩
  · cases h
theorem fGe_ok {γ : Gc} : OpOk γ fGe (rD γ.K CLt fun d e => !PySem.W.dataLt d e) := onD_ok fun i j k h => by
  split at h
  · rename_i q; cases h; exact ⟨ltC_ok q, rfl⟩
  · cases h
section
variable {X : Cx}
theorem op_D {op : CmpOp} {C : PyData → PyData → Prop} {g : PyData → PyData → Bool}
    (rule : ∀ (s : Shared) (a b : Value) (d e : PyData) (as bs : List Addr) (Q : Value → Shared → Prop), Reads s.heap a d as → Reads s.heap b e bs → d.plain = true → e.plain = true → C d e → Q (.bool (g d e)) s → wpAny (model X.prog X.w) X.A (compareOp op a b) Q X.xe s) :
    OpR X (compareOp op) (rD X.K C g) := by
  intro pins s σ H x y v u Q I rx ry h
  obtain ⟨d, e, hd, he, pd, pe, hc, q⟩ := h
  obtain ⟨as, r1⟩ := Dp.reads I d x v hd rx
  obtain ⟨bs, r2⟩ := Dp.reads I e y u he ry
  exact rule s v u d e as bs _ r1 r2 pd pe hc ⟨.bl _, H, I, rfl, q⟩
theorem units_of {A : Around} (hu : A.units + 64 < cLine) {n : Nat} (h : n ≤ 60) : A.units + n < cLine := by omega
theorem op_eqA (hu : X.A.units + 64 < cLine) : OpR X (compareOp .Eq) (rD X.K CEq PyData.eqv) := op_D fun s a b d e as bs Q ra rb pa pb hc q => PySem.SeqAt.eq_plain ra rb pa pb (units_of hu hc) q
theorem op_neA (hu : X.A.units + 64 < cLine) : OpR X (compareOp .NotEq) (rD X.K CEq fun d e => !PyData.eqv d e) := op_D fun s a b d e as bs Q ra rb pa pb hc q => PySem.SeqAt.ne_plain ra rb pa pb (units_of hu hc) q
theorem op_ltA (hu : X.A.units + 64 < cLine) : OpR X (compareOp .Lt) (rD X.K CLt PySem.W.dataLt) := op_D fun s a b d e as bs Q ra rb pa pb hc q => PySem.W.lt_data ra rb hc.1 hc.2.1 (units_of hu hc.2.2) q
theorem op_leA (hu : X.A.units + 64 < cLine) : OpR X (compareOp .LtE) (rD X.K CLt fun d e => !PySem.W.dataLt e d) := op_D fun s a b d e as bs Q ra rb pa pb hc q => PySem.W.le_data ra rb hc.1 hc.2.1 (units_of hu hc.2.2) q
theorem op_gtA (hu : X.A.units + 64 < cLine) : OpR X (compareOp .Gt) (rD X.K CLt fun d e => PySem.W.dataLt e d) := op_D fun s a b d e as bs Q ra rb pa pb hc q => PySem.W.gt_data ra rb hc.1 hc.2.1 (units_of hu hc.2.2) q
theorem op_geA (hu : X.A.units + 64 < cLine) : OpR X (compareOp .GtE) (rD X.K CLt fun d e => !PySem.W.dataLt d e) := op_D fun s a b d e as bs Q ra rb pa pb hc q => PySem.W.ge_data ra rb hc.1 hc.2.1 (units_of hu hc.2.2) q
end
end NL
end
section
set_option Elab.async false
set_option linter.all false
set_option maxRecDepth 100000
set_option maxHeartbeats 4000000
/-! Dicts, membership, subscripts, slices, built-in functions by values. -/
namespace NL
open PySem PySem.Spec PyProof.Rows L2

/-! ### keys of dicts -/
def keyD : Key → PyData
  | .inl i => .int i
  | .inr x => .str x
def keysD (ks : List Key) : PyData := .tuple (ks.map keyD)
def toKey : PyData → Option Key
  | .int i => some (.inl i)
  | .str x => some (.inr x)
  | _ => none
def toKeyL : List PyData → Option (List Key)
  | [] => some []
  | d :: ds => match toKey d, toKeyL ds with
    | some k, some ks => some (k :: ks)
    | _, _ => none
def toKeys : PyData → Option (List Key)
  | .tuple ds => toKeyL ds
  | _ => none
theorem toKey_eq {d : PyData} {k : Key} (h : toKey d = some k) : d = keyD k := by
  cases d <;> simp [toKey] at h <;> subst h <;> rfl
theorem toKeyL_eq : ∀ {ds : List PyData} {ks : List Key}, toKeyL ds = some ks → ds = ks.map keyD
  | [], ks, h => by cases h; rfl
  | d :: ds, ks, h => by
    unfold toKeyL at h
    split at h
    · rename_i k ks' h1 h2
      cases h
      rw [toKey_eq h1, toKeyL_eq h2]; rfl
    · cases h
theorem toKeys_eq {d : PyData} {ks : List Key} (h : toKeys d = some ks) : d = keysD ks := by
  cases d <;> simp [toKeys] at h
  rw [toKeyL_eq h]; rfl
section
variable {K : PySem.W.Frag} {rh : Addr → Prop} {H : Hp}
theorem FD.key {v : V} {k : Key} (h : FD K rh H v (keyD k)) : v = kV k := by
  cases k <;> cases h <;> rfl
theorem FDs.keys : ∀ {ks : List Key} {vs : List V}, FDs K rh H vs (ks.map keyD) → vs = ks.map kV
  | [], _, h => by cases h; rfl
  | k :: ks, _, h => by
    cases h with
    | cons h t => rw [List.map_cons, FD.key h, FDs.keys t]
theorem FD.keysT {v : V} {ks : List Key} (h : FD K rh H v (keysD ks)) : ∃ b, v = .ref b ∧ ¬ rh b ∧ H b = some (.tup (ks.map kV)) := by
  cases h with
  | tup h n f => exact ⟨_, rfl, n, by rw [← FDs.keys f]; exact h⟩
theorem FD.ofKey (k : Key) : FD K rh H (kV k) (keyD k) := by
  cases k
  · exact FD.int _
  · exact FD.str _
theorem FDs.ofKeys : ∀ (ks : List Key), FDs K rh H (ks.map kV) (ks.map keyD)
  | [] => .nil
  | k :: ks => .cons (FD.ofKey k) (FDs.ofKeys ks)
end

/-! ### dicts' contents -/
section
variable {κ : Type} [DecidableEq κ]
def valD (kvs : List (κ × PyData)) (k : κ) : Option PyData := (kvs.find? fun kv => decide (kv.1 = k)).map (·.2)
def putD (kvs : List (κ × PyData)) (k : κ) (v : PyData) : List (κ × PyData) :=
  if (kvs.any fun kv => decide (kv.1 = k)) = true then kvs.map fun kv => if kv.1 = k then (kv.1, v) else kv else kvs ++ [(k, v)]
end
def DC.get : DC → PyData → Option (Option PyData)
  | .k kvs, d => (toKey d).map fun k => valD kvs k
  | .t kvs, d => (toKeys d).map fun k => valD kvs k
def DC.len : DC → Nat
  | .k kvs => kvs.length
  | .t kvs => kvs.length
def DC.put : DC → PyData → PyData → Option DC
  | .k kvs, d, v => (toKey d).map fun k => .k (putD kvs k v)
  | .t kvs, d, v => (toKeys d).map fun k => .t (putD kvs k v)
def DC.keys : DC → List PyData
  | .k kvs => kvs.map fun kv => keyD kv.1
  | .t kvs => kvs.map fun kv => keysD kv.1
def dcOf (st : Store) : AV → Option DC
  | .c c => some c
  | .r l => match st[l]? with
    | some (.d c) => some c
    | _ => none
  | _ => none
section
variable {γ : Gc} {w : Wd} {st : Store} {H : Hp} {x : AV} {u : V}
theorem dc_at (c : ConS γ w st H) (r : ConV γ.K w H x u) {d : DC} (h : dcOf st x = some d) : ∃ a, u = .ref a ∧ DcAt γ.K w.rh H a d := by
  unfold dcOf at h
  split at h
  · cases h
    obtain ⟨a, h1, _, h3⟩ := r
    exact ⟨a, h1, h3⟩
  · split at h
    · rename_i l c' e
      cases h
      obtain ⟨a, h1, h2⟩ := r
      exact ⟨a, h2, c.cell _ _ _ h1 e⟩
    · cases h
  · cases h
variable {κ : Type} [DecidableEq κ]
theorem val_pair {K : PySem.W.Frag} {rh : Addr → Prop} {ws : List (κ × V)} {kvs : List (κ × PyData)} (p : Paired (fun (p : κ × V) (q : κ × PyData) => p.1 = q.1 ∧ FD K rh H p.2 q.2) ws kvs) (k : κ) :
    (valV ws k = none ∧ valD kvs k = none) ∨ ∃ v d, valV ws k = some v ∧ valD kvs k = some d ∧ FD K rh H v d := by
  induction p with
  | nil => exact .inl ⟨rfl, rfl⟩
  | @cons a b as bs h t ih =>
    by_cases e : a.1 = k
    · refine .inr ⟨a.2, b.2, valV_pos e, ?_, h.2⟩
      have e' : b.1 = k := by rw [← h.1]; exact e
      simp [valD, List.find?_cons, e']
    · have e' : ¬ b.1 = k := by rw [← h.1]; exact e
      have q : valD (b :: bs) k = valD bs k := by simp [valD, List.find?_cons, e']
      rw [valV_neg e, q]
      exact ih
theorem any_pair {K : PySem.W.Frag} {rh : Addr → Prop} {ws : List (κ × V)} {kvs : List (κ × PyData)} (p : Paired (fun (p : κ × V) (q : κ × PyData) => p.1 = q.1 ∧ FD K rh H p.2 q.2) ws kvs) (k : κ) :
    (ws.any fun kv => decide (kv.1 = k)) = kvs.any fun kv => decide (kv.1 = k) := by
  induction p with
  | nil => rfl
  | cons h t ih => rw [List.any_cons, List.any_cons, ih, h.1]
theorem map_pair {K : PySem.W.Frag} {rh : Addr → Prop} {ws : List (κ × V)} {kvs : List (κ × PyData)} (p : Paired (fun (p : κ × V) (q : κ × PyData) => p.1 = q.1 ∧ FD K rh H p.2 q.2) ws kvs) (k : κ) {v : V} {d : PyData} (r : FD K rh H v d) :
    Paired (fun (p : κ × V) (q : κ × PyData) => p.1 = q.1 ∧ FD K rh H p.2 q.2) (ws.map fun kv => if kv.1 = k then (kv.1, v) else kv) (kvs.map fun kv => if kv.1 = k then (kv.1, d) else kv) := by
  induction p with
  | nil => exact .nil
  | @cons a b as bs h t ih =>
    simp only [List.map_cons]
    refine .cons ?_ ih
    by_cases e : a.1 = k
    · have e' : b.1 = k := by rw [← h.1]; exact e
      rw [if_pos e, if_pos e']; exact ⟨h.1, r⟩
    · have e' : ¬ b.1 = k := by rw [← h.1]; exact e
      rw [if_neg e, if_neg e']; exact h
theorem app_pair {α β : Type} {F : α → β → Prop} {xs xs' : List α} {ys ys' : List β} (p : Paired F xs ys) (q : Paired F xs' ys') : Paired F (xs ++ xs') (ys ++ ys') := by
  induction p with
  | nil => exact q
  | cons h t ih => exact .cons h ih
theorem put_pair {K : PySem.W.Frag} {rh : Addr → Prop} {ws : List (κ × V)} {kvs : List (κ × PyData)} (p : Paired (fun (p : κ × V) (q : κ × PyData) => p.1 = q.1 ∧ FD K rh H p.2 q.2) ws kvs) (k : κ) {v : V} {d : PyData} (r : FD K rh H v d) :
    Paired (fun (p : κ × V) (q : κ × PyData) => p.1 = q.1 ∧ FD K rh H p.2 q.2) (putK ws k v) (putD kvs k d) := by
  unfold putK putD
  rw [any_pair p k]
  split
  · exact map_pair p k r
  · exact app_pair p (.cons ⟨rfl, r⟩ .nil)
theorem put_len (kvs : List (κ × PyData)) (k : κ) (v : PyData) : (putD kvs k v).length ≤ kvs.length + 1 := by
  unfold putD
  split
  · rw [List.length_map]; omega
  · simp
/-- what a look-up says -/
theorem dc_get (c : DcAt γ.K w.rh H a d) {k : PyData} {y : V} (ry : FD γ.K w.rh H y k) {o : Option PyData} (h : d.get k = some o) :
    ∃ ov, DGet H a y ov ∧ ov.isSome = o.isSome ∧ ∀ v z, ov = some v → o = some z → FD γ.K w.rh H v z := by
  cases d with
  | k kvs =>
    obtain ⟨ws, h1, p⟩ := c
    simp only [DC.get, Option.map_eq_some_iff] at h
    obtain ⟨k', e1, rfl⟩ := h
    have e2 := toKey_eq e1
    subst e2
    have e3 := FD.key ry
    subst e3
    refine ⟨_, DGet.k (k := k') h1, ?_, ?_⟩
    · rcases val_pair p k' with ⟨z1, z2⟩ | ⟨v, dd, z1, z2, _⟩ <;> rw [z1, z2] <;> rfl
    · intro v z hv hz
      rcases val_pair p k' with ⟨z1, z2⟩ | ⟨v', dd, z1, z2, z3⟩
      · rw [z1] at hv; cases hv
      · rw [z1] at hv; rw [z2] at hz; cases hv; cases hz; exact z3
  | t kvs =>
    obtain ⟨ws, h1, p⟩ := c
    simp only [DC.get, Option.map_eq_some_iff] at h
    obtain ⟨k', e1, rfl⟩ := h
    have e2 := toKeys_eq e1
    subst e2
    obtain ⟨b, rfl, _, hb⟩ := FD.keysT ry
    refine ⟨_, DGet.t (k := k') h1 hb, ?_, ?_⟩
    · rcases val_pair p k' with ⟨z1, z2⟩ | ⟨v, dd, z1, z2, _⟩ <;> rw [z1, z2] <;> rfl
    · intro v z hv hz
      rcases val_pair p k' with ⟨z1, z2⟩ | ⟨v', dd, z1, z2, z3⟩
      · rw [z1] at hv; cases hv
      · rw [z1] at hv; rw [z2] at hz; cases hv; cases hz; exact z3
end

/-! ### in, not in -/
def seqD : PyData → Option (List PyData)
  | .list xs => some xs
  | .tuple xs => some xs
  | _ => none
def inD (neg : Bool) (d e : PyData) : Option Bool := match seqD e with
  | some xs => if min (PyData.depthAll xs) d.depth ≤ 58 then some (let b := xs.any fun y => PyData.eqv y d; if neg then !b else b) else none
  | none => none
abbrev CIn : PyData → PyData → Prop := fun d e => ∃ xs, seqD e = some xs ∧ min (PyData.depthAll xs) d.depth ≤ 58
def gIn (neg : Bool) (d e : PyData) : Bool := match seqD e with
  | some xs => let b := xs.any fun y => PyData.eqv y d; if neg then !b else b
  | none => false
theorem inD_ok {γ : Gc} (neg : Bool) : OpOk γ (onD (inD neg)) (rD γ.K CIn (gIn neg)) := onD_ok fun i j k h => by
  unfold inD at h
  split at h
  · rename_i xs e
    split at h
    · rename_i q
      cases h
      exact ⟨⟨xs, e, q⟩, by unfold gIn; rw [e]⟩
    · cases h
  · cases h
theorem op_inA {X : Cx} (hu : X.A.units + 64 < cLine) : OpR X (compareOp .In) (rD X.K CIn (gIn false)) := op_D fun s a b d e as bs Q ra rb pa pb hc q => by
  obtain ⟨xs, e1, h1⟩ := hc
  cases e <;> simp [seqD] at e1 <;> subst e1
  · exact PySem.SeqAt.in_list_data rb ra (by rw [PyData.plain] at pb; exact pb) pa (by omega) q
  · exact PySem.SeqAt.in_tuple_data rb ra (by rw [PyData.plain] at pb; exact pb) pa (by omega) q
theorem op_notInA {X : Cx} (hu : X.A.units + 64 < cLine) : OpR X (compareOp .NotIn) (rD X.K CIn (gIn true)) := op_D fun s a b d e as bs Q ra rb pa pb hc q => by
  obtain ⟨xs, e1, h1⟩ := hc
  cases e <;> simp [seqD] at e1 <;> subst e1
  · exact PySem.SeqAt.notIn_list_data rb ra (by rw [PyData.plain] at pb; exact pb) pa (by omega) q
  · exact PySem.SeqAt.notIn_tuple_data rb ra (by rw [PyData.plain] at pb; exact pb) pa (by omega) q
def inK (neg : Bool) : Store → AV → AV → Option AV := fun st x y => match x, dcOf st y with
  | .d k, some c => (c.get k).map fun o => .d (.bool (if neg then !o.isSome else o.isSome))
  | _, _ => none
def rInK (neg : Bool) : R2 := fun x y H Q => ∃ a o, y = .ref a ∧ DGet H a x o ∧ Q (.bl (if neg then !o.isSome else o.isSome)) H
theorem inK_ok {γ : Gc} (neg : Bool) : OpOk γ (inK neg) (rInK neg) := by
  intro w st H x y z u v Q c a b e k
  unfold inK at e
  split at e
  · rename_i kd cd e1
    simp only [Option.map_eq_some_iff] at e
    obtain ⟨o, e2, rfl⟩ := e
    obtain ⟨b', rfl, hd⟩ := dc_at c b e1
    obtain ⟨ov, g, hs, _⟩ := dc_get hd (show FD γ.K w.rh H u kd from a) e2
    refine ⟨b', ov, rfl, g, ?_⟩
    rw [hs]
    exact k _ H (Ext.refl _ _) c (FD.bl _)
  · cases e
theorem op_inK {X : Cx} (hu : X.A.units + 1 < cLine) : OpR X (compareOp .In) (rInK false) := by
  intro pins s σ H x y v u Q I rx ry h
  obtain ⟨a, o, rfl, g, q⟩ := h
  cases (show u = Value.ref a from ry)
  exact d_in hu I g rx fun s' I' => ⟨.bl o.isSome, H, I', rfl, q⟩
theorem op_notInK {X : Cx} (hu : X.A.units + 1 < cLine) : OpR X (compareOp .NotIn) (rInK true) := by
  intro pins s σ H x y v u Q I rx ry h
  obtain ⟨a, o, rfl, g, q⟩ := h
  cases (show u = Value.ref a from ry)
  exact d_notIn hu I g rx fun s' I' => ⟨.bl (!o.isSome), H, I', rfl, q⟩
def fIn := oneOf (onD (inD false)) (inK false)
def fNotIn := oneOf (onD (inD true)) (inK true)

/-! ### is -/
/-- x is k for a written None, True, False -/
def rIsC (k : V) (neg : Bool) : R2 := fun x y H Q => y = k ∧ Q (.bl (if neg then !decide (x = k) else decide (x = k))) H
theorem vb_ne {v : Value} {b : Bool} (n : v ≠ .bool b) : (v == Value.bool b) = false := beq_eq_false_iff_ne.mpr n
theorem is_bool_of {M : Model} {A : Around} {E : Value → Shared → Prop} {s : Shared} {x : V} {v : Value} {b : Bool} {Q : Value → Shared → Prop} (r : RelV x v) (h : Q (.bool (decide (x = .bl b))) s) : wpAny M A (compareOp .Is v (.bool b)) Q E s := by
  cases x with
  | non => cases r; exact wpAny_pure (by rw [vb_ne (fun z => by cases z)]; simpa using h)
  | bl c => cases r; exact wpAny_pure (by simpa [Bool.beq_eq_decide_eq] using h)
  | int _ => obtain ⟨t, rfl⟩ := r; exact wpAny_pure (by rw [vb_ne (fun z => by cases z)]; simpa using h)
  | str _ => obtain ⟨t, rfl⟩ := r; exact wpAny_pure (by rw [vb_ne (fun z => by cases z)]; simpa using h)
  | byt _ => obtain ⟨t, rfl⟩ := r; exact wpAny_pure (by rw [vb_ne (fun z => by cases z)]; simpa using h)
  | flt _ => obtain ⟨t, rfl⟩ := r; exact wpAny_pure (by rw [vb_ne (fun z => by cases z)]; simpa using h)
  | ref _ => cases r; exact wpAny_pure (by rw [vb_ne (fun z => by cases z)]; simpa using h)
  | ty _ => cases r; exact wpAny_pure (by rw [vb_ne (fun z => by cases z)]; simpa using h)
theorem isnot_bool_of {M : Model} {A : Around} {E : Value → Shared → Prop} {s : Shared} {x : V} {v : Value} {b : Bool} {Q : Value → Shared → Prop} (r : RelV x v) (h : Q (.bool (!decide (x = .bl b))) s) : wpAny M A (compareOp .IsNot v (.bool b)) Q E s := by
  cases x with
  | non => cases r; exact wpAny_pure (by rw [vb_ne (fun z => by cases z)]; simpa using h)
  | bl c => cases r; exact wpAny_pure (by simpa [Bool.beq_eq_decide_eq] using h)
  | int _ => obtain ⟨t, rfl⟩ := r; exact wpAny_pure (by rw [vb_ne (fun z => by cases z)]; simpa using h)
  | str _ => obtain ⟨t, rfl⟩ := r; exact wpAny_pure (by rw [vb_ne (fun z => by cases z)]; simpa using h)
  | byt _ => obtain ⟨t, rfl⟩ := r; exact wpAny_pure (by rw [vb_ne (fun z => by cases z)]; simpa using h)
  | flt _ => obtain ⟨t, rfl⟩ := r; exact wpAny_pure (by rw [vb_ne (fun z => by cases z)]; simpa using h)
  | ref _ => cases r; exact wpAny_pure (by rw [vb_ne (fun z => by cases z)]; simpa using h)
  | ty _ => cases r; exact wpAny_pure (by rw [vb_ne (fun z => by cases z)]; simpa using h)
def isK : PyData → Option V
  | .none => some .non
  | .bool b => some (.bl b)
  | _ => none
theorem op_isC {X : Cx} {d : PyData} {k : V} (h : isK d = some k) : OpR X (compareOp .Is) (rIsC k false) := by
  intro pins s σ H x y v u Q I rx ry h'
  obtain ⟨rfl, q⟩ := h'
  cases d <;> simp [isK] at h <;> subst h
  · cases (show u = Value.none from ry)
    exact is_none_gen ⟨.bl _, H, I, by rw [rx.none_iff]; rfl, q⟩
  · rename_i b
    cases (show u = Value.bool b from ry)
    exact is_bool_of rx ⟨.bl _, H, I, rfl, q⟩
theorem op_isNotC {X : Cx} {d : PyData} {k : V} (h : isK d = some k) : OpR X (compareOp .IsNot) (rIsC k true) := by
  intro pins s σ H x y v u Q I rx ry h'
  obtain ⟨rfl, q⟩ := h'
  cases d <;> simp [isK] at h <;> subst h
  · cases (show u = Value.none from ry)
    exact isnot_none_gen ⟨.bl _, H, I, by rw [rx.none_iff]; rfl, q⟩
  · rename_i b
    cases (show u = Value.bool b from ry)
    exact isnot_bool_of rx ⟨.bl _, H, I, rfl, q⟩
/-- whether a value is the constant -/
def isB (d : PyData) : AV → Bool
  | .d .none => match d with
    | .none => true
    | _ => false
  | .d (.bool a) => match d with
    | .bool b => decide (a = b)
    | _ => false
  | _ => false
theorem isB_ok {K : PySem.W.Frag} {w : Wd} {H : Hp} {x : AV} {u : V} (r : ConV K w H x u) {d : PyData} {k : V} (h : isK d = some k) : decide (u = k) = isB d x := by
  cases d <;> simp [isK] at h <;> subst h
  · cases x with
    | d y => cases r <;> simp [isB]
    | r _ => obtain ⟨a, _, rfl⟩ := r; simp [isB]
    | c _ => obtain ⟨a, rfl, _⟩ := r; simp [isB]
    | z _ => obtain ⟨a, rfl, _⟩ := r; simp [isB]
    | e _ => cases r; simp [isB]
  · cases x with
    | d y => cases r <;> simp [isB]
    | r _ => obtain ⟨a, _, rfl⟩ := r; simp [isB]
    | c _ => obtain ⟨a, rfl, _⟩ := r; simp [isB]
    | z _ => obtain ⟨a, rfl, _⟩ := r; simp [isB]
    | e _ => cases r; simp [isB]
def fIs (d : PyData) (neg : Bool) : Store → AV → AV → Option AV := fun _ x _ => some (.d (.bool (if neg then !isB d x else isB d x)))
theorem fIs_ok {γ : Gc} {d : PyData} {k : V} (neg : Bool) (h : isK d = some k) (w : Wd) (st : Store) (H : Hp) (x z : AV) (u : V) (Q : VK) (c : ConS γ w st H) (a : ConV γ.K w H x u) (y : AV) (e : fIs d neg st x y = some z)
    (q : ∀ q H', Ext w.al H H' → ConS γ w st H' → ConV γ.K w H' z q → Q q H') : rIsC k neg u k H Q := by
  cases e
  refine ⟨rfl, ?_⟩
  rw [isB_ok a h]
  exact q _ H (Ext.refl _ _) c (FD.bl _)

/-! ### subscripts -/
def ixD {α : Type} (xs : List α) (i : Int) : Option α := atI xs i
def fIx : Store → AV → AV → Option AV := fun st x y => match y with
  | .d (.int i) => match x with
    | .z xs => (atI xs i).map fun n => .d (.int n)
    | _ => match sq st x with
      | some xs => (atI xs i).map fun d => .d d
      | none => none
  | _ => none
def rIxA (K : PySem.W.Frag) : R2 := fun x y H Q => rIxL K x y H Q ∨ rIxT K x y H Q
theorem atI_pair {α β : Type} {F : α → β → Prop} {xs : List α} {ys : List β} (hl : xs.length = ys.length) (hg : ∀ (i : Nat) (d : β), ys[i]? = some d → ∃ v, xs[i]? = some v ∧ F v d) {i : Int} {d : β} (h : atI ys i = some d) : ∃ v, atI xs i = some v ∧ F v d := by
  unfold atI at h ⊢
  rw [hl]
  cases e : ixN ys.length i with
  | none => rw [e] at h; cases h
  | some j =>
    rw [e] at h
    exact hg j d h
theorem fIx_ok {γ : Gc} : OpOk γ fIx (rIxA γ.K) := by
  intro w st H x y z u v Q c a b e k
  unfold fIx at e
  split at e
  · rename_i i
    cases b
    split at e
    · rename_i xs
      obtain ⟨n, e1, rfl⟩ := Option.map_eq_some_iff.mp e
      obtain ⟨p, rfl, hz⟩ := a
      have hs := hz.sq
      obtain ⟨v, h1, rfl⟩ := atI_pair (F := fun v (n : Int) => v = V.int n) (xs := xs.map V.int) (ys := xs) (List.length_map ..) (fun j d hd => ⟨.int d, by rw [List.getElem?_map, hd]; rfl, rfl⟩) e1
      exact .inl ⟨p, _, i, _, rfl, rfl, hs, h1, k _ H (Ext.refl _ _) c (FD.int _)⟩
    · split at e
      · rename_i xs e1
        obtain ⟨d, e2, rfl⟩ := Option.map_eq_some_iff.mp e
        obtain ⟨p, vs, rfl, hp, hf⟩ := sq_at c a e1
        obtain ⟨v, h1, h2⟩ := atI_pair (F := fun v d => FD γ.K w.rh H v d) hf.length (fun j d hd => hf.get hd) e2
        rcases hp with hp | hp
        · exact .inl ⟨p, vs, i, v, rfl, rfl, SqL.of hp, h1, k _ H (Ext.refl _ _) c h2⟩
        · exact .inr ⟨p, vs, i, v, rfl, rfl, SqT.of hp, h1, k _ H (Ext.refl _ _) c h2⟩
      · cases e
  · cases e
def fIxK : Store → AV → AV → Option AV := fun st x y => match y, dcOf st x with
  | .d k, some c => match c.get k with
    | some (some d) => some (.d d)
    | _ => none
  | _, _ => none
def rIxK : R2 := fun x y H Q => ∃ a v, x = .ref a ∧ DGet H a y (some v) ∧ Q v H
theorem fIxK_ok {γ : Gc} : OpOk γ fIxK rIxK := by
  intro w st H x y z u v Q c a b e k
  unfold fIxK at e
  split at e
  · rename_i kd cd e1
    split at e
    · rename_i d e2
      cases e
      obtain ⟨b', rfl, hd⟩ := dc_at c a e1
      obtain ⟨ov, g, hs, hf⟩ := dc_get hd (show FD γ.K w.rh H v kd from b) e2
      cases ov with
      | none => cases hs
      | some v' => exact ⟨b', v', rfl, g, k _ H (Ext.refl _ _) c (hf v' d rfl rfl)⟩
    · cases e
  · cases e
theorem ix_dict {X : Cx} (hu : X.A.units + 1 < cLine) : IxR X rIxK := by
  intro value slice pins s σ H x y v u Q I rx ry h hs
  obtain ⟨a, z, rfl, g, q⟩ := h
  cases (show v = Value.ref a from rx)
  exact tail_any (dict_typeIs I g) PySem.F.slot_dict_getitem.lookup (d_getItem hu I g ry fun w' s' I' rw' => ⟨z, H, I', rw', q⟩) hs
def fSub1 := oneOf fIx fIxK
def rSub1 (K : PySem.W.Frag) : R2 := fun x y H Q => rIxA K x y H Q ∨ rIxK x y H Q
theorem fSub1_ok {γ : Gc} : OpOk γ fSub1 (rSub1 γ.K) := OpOk.one fIx_ok fIxK_ok
theorem ix_any {X : Cx} (hu : X.A.units + 1 < cLine) : IxR X (rSub1 X.K) := (ix_list.or ix_tup).or (ix_dict hu)

/-! ### slices -/
def cutD (xs : List PyData) (lo hi : Option Int) : List PyData := (xs.drop (HT.sIx xs.length 0 lo)).take (HT.sIx xs.length xs.length hi - HT.sIx xs.length 0 lo)
theorem cut_fds {K : PySem.W.Frag} {rh : Addr → Prop} {H : Hp} {vs : List V} {xs : List PyData} (h : FDs K rh H vs xs) (lo hi : Option Int) : FDs K rh H (cutV vs lo hi) (cutD xs lo hi) := by
  unfold cutV cutD
  rw [h.length]
  exact (h.drop _).take _
def fSl (st : Store) (x : AV) (lo hi : Option Int) : Option AV := match vw st x with
  | some (.list xs) => some (.d (.list (cutD xs lo hi)))
  | some (.tuple xs) => some (.d (.tuple (cutD xs lo hi)))
  | _ => none
def rSlX (K : PySem.W.Frag) : V → Option Int → Option Int → Hp → VK → Prop := fun x lo hi H Q => rSlL K x lo hi H Q ∨ rSlA K x lo hi H Q
theorem sl_any {X : Cx} : SlR X (rSlX X.K) := sl_list.or sl_tupA
theorem cutD_whole {xs : List PyData} {lo hi : Option Int} (h : HT.sIx xs.length 0 lo = 0 ∧ HT.sIx xs.length xs.length hi = xs.length) : cutD xs lo hi = xs := by
  unfold cutD
  rw [h.1, h.2]
  simp
theorem fSl_ok {γ : Gc} (g : γ.Ok) {w : Wd} {st : Store} {H : Hp} {x z : AV} {u : V} {lo hi : Option Int} {Q : VK} (c : ConS γ w st H) (a : ConV γ.K w H x u) (e : fSl st x lo hi = some z)
    (k : ∀ q H', Ext w.al H H' → ConS γ w st H' → ConV γ.K w H' z q → Q q H') : rSlX γ.K u lo hi H Q := by
  unfold fSl at e
  split at e
  · rename_i xs e1
    cases e
    obtain ⟨p, vs, rfl, hp, hf⟩ := ls_at c a (xs := xs) (by unfold ls; rw [e1])
    refine .inl ⟨p, vs, rfl, SqL.of hp, fun q hq => ?_⟩
    obtain ⟨e3, c3, r3⟩ := new_lst g c (cut_fds hf lo hi) hq
    exact k _ _ e3 c3 r3
  · rename_i xs e1
    cases e
    have hx : x = .d (.tuple xs) := by
      unfold vw at e1
      split at e1
      · cases e1; rfl
      · split at e1 <;> cases e1
      · cases e1
    subst hx
    cases a with
    | tup h1 n1 f1 =>
      refine .inr ⟨_, _, rfl, SqT.of h1, fun hw => ?_, fun _ q hq => ?_⟩
      · rw [f1.length] at hw
        rw [cutD_whole hw] at k
        exact k _ H (Ext.refl _ _) c (FD.tup h1 n1 f1)
      · obtain ⟨e3, c3, r3⟩ := new_tup g c (cut_fds f1 lo hi) hq
        exact k _ _ e3 c3 r3
  · cases e
end NL
end
section
set_option Elab.async false
set_option linter.all false
set_option maxRecDepth 100000
set_option maxHeartbeats 4000000
/-! Sorting of data, keys of dicts, repr. -/
namespace NL
open PySem PySem.Spec PyProof.Rows L2
open PySem.W (EachIs AllAlike Sortable dataLe)

abbrev leD : PyData → PyData → Bool := dataLe false (id : PyData → PyData)
/-! ### sorted -/
def rSortL (K : PySem.W.Frag) : List V → Hp → VK → Prop := fun us H Q => ∃ (a : Addr) (vs : List V) (ds : List PyData) (F : V → PyData → Prop), us = [.ref a] ∧ H a = some (.lst vs) ∧ Paired F vs ds ∧ (∀ v d, F v d → Dp K H v d) ∧
  AllAlike ds ∧ Sortable ds ∧ (∀ d ∈ ds, d.depth ≤ 60) ∧ ∀ ws p, Paired F ws (ds.mergeSort leD) → H p = none → Q (.ref p) (upd H p (.lst ws))
theorem each_of {F : V → PyData → Prop} : ∀ {vs : List V} {ds : List PyData} {us : List Value}, Paired F vs ds → Vals vs us → EachIs (fun v d => ∃ x, RelV x v ∧ F x d) us ds
  | _, _, _, .nil, .nil => .nil
  | _, _, _, .cons h t, .cons r s => .cons ⟨_, r, h⟩ (each_of t s)
theorem of_each {F : V → PyData → Prop} : ∀ {us : List Value} {ds : List PyData}, EachIs (fun v d => ∃ x, RelV x v ∧ F x d) us ds → ∃ vs, Vals vs us ∧ Paired F vs ds
  | _, _, .nil => ⟨[], .nil, .nil⟩
  | _, _, .cons ⟨x, r, h⟩ t => by
    obtain ⟨vs, h1, h2⟩ := of_each t
    exact ⟨x :: vs, .cons r h1, .cons h h2⟩
section
variable {X : Cx} {pins : List (Addr × Obj)} {σ : L2.St} {H : Hp} {s : Shared}
theorem each_reads (I : Inv X pins σ H s) {F : V → PyData → Prop} (hF : ∀ v d, F v d → Dp X.K H v d) {us : List Value} {ds : List PyData} (h : EachIs (fun v d => ∃ x, RelV x v ∧ F x d) us ds) :
    EachIs (fun v d => ∃ as, Reads s.heap v (id d) as) us ds := h.mono fun v d ⟨x, r, f⟩ => Dp.reads I d x v (hF _ _ f) r
theorem cr_sortL (hu : X.A.units + 64 < cLine) : CallR X (.builtin "sorted") (rSortL X.K) := by
  intro pins s σ H xs us Q I r h
  obtain ⟨a, vs, ds, F, rfl, hH, hp, hF, hal, hk, hd, q⟩ := h
  obtain ⟨u, rfl, ru⟩ := vals1 r
  cases (show u = Value.ref a from ru)
  obtain ⟨its, rv, hl, hz⟩ := I.list (SqL.of hH)
  have e := each_of hp rv
  have hlen : ds.length = vs.length := (Paired.length hp).symm
  refine PySem.W.sorted_data (R := fun v d => ∃ x, RelV x v ∧ F x d) (enc := id) (bs := ds) hl.isList e (each_reads I hF e) (by rw [List.map_id]; exact hal) (by rw [List.map_id]; exact hk) (by omega) (fun d hd' => by have := hd d hd'; show X.A.units + 2 + d.depth < cLine; omega) fun out ho eo => ?_
  obtain ⟨ws, h1, h2⟩ := of_each eo
  obtain ⟨n, hn⟩ := PyProof.Rows.sortedAll_at s.heap its out.toArray
  have hs1 : s.heap.objs.size ≤ s.heap.objs.size + 1 := Nat.le_succ _
  refine ⟨.ref (s.heap.objs.size + 1), upd H (s.heap.objs.size + 1) (.lst ws), I.laid (t' := s.toks) (fun b o hb => PyProof.Rows.sortedAll_old hb) hs1 ⟨?_, out, n, h1, hn⟩, rfl, q ws _ h2 (I.hok.fresh hs1)⟩
  have := h1.length
  omega
end

/-! ### the keys of a dict, collected -/
theorem refs_keys {P : Program} {w : World} : ∀ xs : List (List Key × Addr × Value), Vals (xs.map (V.ref ∘ fun x => x.2.1)) (xs.map ((fun x => x.key) ∘ entryOfKey (tupleKind (mixKind P w))))
  | [] => .nil
  | _ :: r => .cons rfl (refs_keys r)
def KeysOf (H : Hp) (a : Addr) (ks : List V) : Prop := (∃ ws, H a = some (.dK ws) ∧ ks = ws.map fun kv => kV kv.1) ∨ ∃ ws bs, H a = some (.dT ws) ∧ IsKeys H ws bs ∧ ks = bs.map V.ref
section
variable {X : Cx} {pins : List (Addr × Obj)} {σ : L2.St} {H : Hp} {s : Shared}
/-- what a dict's object says of its keys, entry by entry -/
theorem dict_src (I : Inv X pins σ H s) {a : Addr} (h : (∃ ws, H a = some (.dK ws)) ∨ ∃ ws, H a = some (.dT ws)) :
    ∃ (o : Obj) (es : Array DictEntry) (ep : Nat) (ks : List V), s.heap.get? a = some o ∧ (a == sysModules) = false ∧ o.ExactDict ∧ o.data = .dict es ep ∧ es.size ≤ sizeLine ∧ KeysOf H a ks ∧ Vals ks (es.toList.map (·.key)) := by
  rcases h with ⟨ws, hd⟩ | ⟨ws, hd⟩
  · obtain ⟨z, lo, vs, rel, dd⟩ := dk_of I.hok hd
    obtain ⟨es, ep, ⟨o, ho, hx, hdat⟩, hs, he⟩ := Heap.DictOf.raw dd
    refine ⟨o, es, ep, _, ho, lo, hx, hdat, ?_, .inl ⟨ws, hd, rfl⟩, ?_⟩
    · rw [hs, ← rel.length]; exact z
    · have hl : ws.length = vs.length := rel.length
      have hz : es.toList.length = ws.length := by rw [Array.length_toList, hs, hl]
      refine vals_of_at (by rw [List.length_map, List.length_map, hz]) fun j x u h1 h2 => ?_
      have hj : j < vs.length := by
        have := (List.getElem?_eq_some_iff.mp h1).1
        rw [List.length_map] at this
        omega
      have hje : j < es.size := by omega
      rw [List.getElem?_map, Array.getElem?_toList, Array.getElem?_eq_getElem hje] at h2
      have e6 : es[j].key = u := Option.some.inj h2
      have e1 : vs[j]? = some vs[j] := List.getElem?_eq_getElem hj
      have e2 := (he j hje vs[j].1 vs[j].2 e1).1
      have e4 : (ws.map (·.1))[j]? = some vs[j].1 := by rw [rel.keys, List.getElem?_map, e1]; rfl
      rw [List.getElem?_map] at h1 e4
      cases hw : ws[j]? with
      | none => rw [hw] at e4; cases e4
      | some p =>
        rw [hw] at h1 e4
        have e5 : p.1 = vs[j].1 := Option.some.inj e4
        have e7 : kV p.1 = x := Option.some.inj h1
        rw [← e7, e5, ← e6]
        exact keyIs_rel e2
  · obtain ⟨z, lo, xs, pr, o, es, ep, ho, hx, hdt, he, hn⟩ := (show ObjOk X.prog X.w H s.heap a (.dT ws) from I.hok a _ hd)
    have l1 : es.size = xs.length := size_of_entries he
    have l2 : ws.length = xs.length := Paired.length pr
    refine ⟨o, es, ep, _, ho, lo, hx, hdt, by omega, .inr ⟨ws, _, hd, isKeys_of pr, rfl⟩, ?_⟩
    rw [he, List.map_map, List.map_map]
    exact refs_keys xs
/-- collect(d): the keys -/
theorem collect_keys (hh : X.A.handled = none) (I : Inv X pins σ H s) {a : Addr} (h : (∃ ws, H a = some (.dK ws)) ∨ ∃ ws, H a = some (.dT ws)) {E : Value → Shared → Prop} {R : List Value → Shared → Prop} {A : Around} (hA : A.handled = none)
    (hR : ∀ ks us h' tk, KeysOf H a ks → Vals ks us → us.length ≤ sizeLine → Inv X pins σ H { s with heap := h', toks := tk } → R us { s with heap := h', toks := tk }) : wpAny (model X.prog X.w) A (collect (.ref a)) R E s := by
  obtain ⟨o, es, ep, ks, ho, lo, hx, hd, hz, hk, hv⟩ := dict_src I h
  refine PySem.W.kdu_collect (kdl_raw lo hx hd) hA ho hz fun h' tk acc hkeep hacc => ?_
  have e : acc.toList = es.toList.map (·.key) := by
    apply List.ext_getElem?
    intro j
    rw [List.getElem?_map, Array.getElem?_toList, Array.getElem?_toList]
    cases hj : acc[j]? with
    | none =>
      have h1 : acc.size ≤ j := Array.getElem?_eq_none_iff.mp hj
      rw [Array.getElem?_eq_none (by rw [← hacc.1]; exact h1)]
      rfl
    | some v =>
      obtain ⟨en, hen, hv⟩ := hacc.2 j v hj
      rw [hen, hv]; rfl
  exact hR ks acc.toList h' tk hk (by rw [e]; exact hv) (by rw [Array.length_toList, hacc.1]; exact hz) (I.kept hkeep)
end

/-- sorted(d) -/
def rSortK (K : PySem.W.Frag) : List V → Hp → VK → Prop := fun us H Q => ∃ (a : Addr) (ds : List PyData) (F : V → PyData → Prop), us = [.ref a] ∧ ((∃ ws, H a = some (.dK ws)) ∨ ∃ ws, H a = some (.dT ws)) ∧ (∀ ks, KeysOf H a ks → Paired F ks ds) ∧
  (∀ v d, F v d → Dp K H v d) ∧ AllAlike ds ∧ Sortable ds ∧ (∀ d ∈ ds, d.depth ≤ 60) ∧ ∀ ws p, Paired F ws (ds.mergeSort leD) → H p = none → Q (.ref p) (upd H p (.lst ws))
theorem cr_sortK {X : Cx} (hc : X.calm = true) (hu : X.A.units + 64 < cLine) : CallR X (.builtin "sorted") (rSortK X.K) := by
  intro pins s σ H xs us Q I r h
  obtain ⟨a, ds, F, rfl, hH, hp, hF, hal, hk, hd, q⟩ := h
  obtain ⟨u, rfl, ru⟩ := vals1 r
  cases (show u = Value.ref a from ru)
  refine Calls.call_function_entry PyProof.Rows.kind_sorted PyProof.Rows.plain_sorted PyProof.Rows.entry_sorted (PyProof.Rows.args_sorted1 _) ?_
  unfold Builtin.«sorted»
  refine wpAny_bind (m := checkCount "sorted" 1 1 _) (wpAny_pure ?_)
  refine wpAny_bind (collect_keys (I.ok.hd hc) I hH (A := X.A.in1) (I.ok.hd hc) fun ks us h' tk hks hv hz I1 => ?_)
  refine wpAny_bind (wpAny_newList ?_ hz)
  have hoL : (h'.push (seqObj "list" us.toArray 0)).get? h'.objs.size = some (seqObj "list" us.toArray 0) := Heap.get?_push_size _ rfl
  show wpAny _ _ _ _ _ { s with heap := h'.push (seqObj "list" us.toArray 0), toks := tk }
  have I2 : Inv X pins σ H { s with heap := h'.push (seqObj "list" us.toArray 0), toks := tk } := I1.kept (t' := tk) fun b o e => Heap.get?_push_of_some _ e
  have pF := hp ks hks
  have e := each_of pF hv
  have hlen : ds.length = us.length := by rw [← Paired.length pF, hv.length]
  have er : EachIs (fun v d => ∃ as, Reads (h'.push (seqObj "list" us.toArray 0)) v (id d) as ∧ h'.objs.size ∉ as) us ds := (each_reads I1 hF e).mono fun v d ⟨as, rd⟩ => ⟨as, PyProof.Rows.Reads.keeps (fun b o e => Heap.get?_push_of_some _ e) rd, fun hm => by
    obtain ⟨o, ho⟩ := PyProof.On.reads_mem_get rd _ hm
    exact absurd (Heap.lt_size ho) (Nat.lt_irrefl _)⟩
  refine wpAny_bind (wpAny_holding (PySem.W.list_sort_data (R := fun v d => ∃ x, RelV x v ∧ F x d) (enc := id) (bs := ds) hoL e er (by rw [List.map_id]; exact hal) (by rw [List.map_id]; exact hk) (by omega) (fun d hd' => by have := hd d hd'; show X.A.units + 1 + 1 + d.depth < cLine; omega) fun out ho eo => ?_))
  obtain ⟨ws, h1, h2⟩ := of_each eo
  obtain ⟨e', he'⟩ := PyProof.Rows.sortedHeap_at (vs := us) (out := out.toArray) hoL
  have hlo : ws.length ≤ sizeLine := by rw [h1.length, ho, hlen]; exact hz
  refine wpAny_pure ⟨_, rfl, .ref h'.objs.size, upd H h'.objs.size (.lst ws), I1.laid (t' := tk) (fun b u e => ?_) (Nat.le_refl _) ⟨hlo, out, e', h1, he'⟩, rfl, q ws _ h2 (I1.hok.fresh (Nat.le_refl _))⟩
  have hb : b < h'.objs.size := Heap.lt_size e
  rw [PyProof.Rows.sortedHeap_old (Nat.ne_of_lt hb) (by rw [size_push']; exact Nat.lt_succ_of_lt hb)]
  exact Heap.get?_push_of_some _ e

/-! ### repr -/
def rRepr (K : PySem.W.Frag) : List V → Hp → VK → Prop := fun us H Q => ∃ (v : V) (d : PyData), us = [v] ∧ Dp K H v d ∧ (∃ a, v = .ref a) ∧ d.showable = true ∧ d.hasDict = false ∧ d.depth ≤ 60 ∧ d.shown.length ≤ sizeLine ∧ Q (.str d.shown) H
theorem cr_repr {X : Cx} (hu : X.A.units + 64 < cLine) (hg : X.A.guards = some []) : CallR X (.builtin "repr") (rRepr X.K) := by
  intro pins s σ H xs us Q I r h
  obtain ⟨v, d, rfl, hD, ⟨a, rfl⟩, h1, h2, h3, h4, q⟩ := h
  obtain ⟨u, rfl, ru⟩ := vals1 r
  obtain ⟨as, rd⟩ := Dp.reads I d _ u hD ru
  cases (show u = Value.ref a from ru)
  exact PySem.repr_of_reads' rd h1 (fun z => by rw [h2] at z; cases z) hg (by omega) (fun _ _ e => e) (fun h' u tk hk => ⟨.str d.shown, H, I.kept hk, ⟨u, rfl⟩, q⟩) h4
end NL
end
section
set_option Elab.async false
set_option linter.all false
set_option maxRecDepth 100000
set_option maxHeartbeats 4000000
/-! d.update(d2), dict(pairs) with int, text and tuple keys. -/
namespace NL
open PySem PySem.Spec PyProof.Rows L2

def mergeG {κ : Type} [DecidableEq κ] (ks ls : List (κ × V)) : List (κ × V) := ls.foldl (fun acc kv => putK acc kv.1 kv.2) ks
theorem mergeG_len {κ : Type} [DecidableEq κ] : ∀ (ls ks : List (κ × V)), (mergeG ks ls).length ≤ ks.length + ls.length
  | [], ks => Nat.le_refl _
  | l :: ls, ks => by
    have h1 := mergeG_len ls (putK ks l.1 l.2)
    have h2 := length_putK ks l.1 l.2
    show (mergeG (putK ks l.1 l.2) ls).length ≤ _
    rw [List.length_cons]; omega
theorem KT.mergeT {H : Hp} : ∀ {ls : List (List Key × V)} {ys : List (List Key × Addr × Value)} {ks : List (List Key × V)} {xs : List (List Key × Addr × Value)}, KT H ls ys → KT H ks xs → KT H (mergeG ks ls) (storedAllH xs ys)
  | _, _, _, _, .nil, r => r
  | _, _, ks, xs, .cons (a := l) (b := y) h t, r => by
    have h1 : KT H (putK ks l.1 l.2) (storedH xs y.1 y.2.1 y.2.2) := by
      have e := h.1
      rw [← e]
      exact KT.put r l.1 h.2.1 h.2.2
    have h2 := KT.mergeT t h1
    exact h2
/-- how tuples of ints hash -/
def intsK : List Key → Option (List Int)
  | [] => some []
  | .inl i :: r => (intsK r).map (i :: ·)
  | .inr _ :: _ => none
def hashT (ns : List Int) : Int := reduceHash (Builtin.Tuple.tupleHashOf (ns.map hashInt))
theorem intsK_eq {P : Program} {w : World} : ∀ {ks : List Key} {ns : List Int}, intsK ks = some ns → ks.map (mixKind P w).hash = ns.map hashInt
  | [], ns, h => by cases h; rfl
  | .inl i :: r, ns, h => by
    obtain ⟨m, h1, rfl⟩ := Option.map_eq_some_iff.mp h
    rw [List.map_cons, List.map_cons, intsK_eq h1]; rfl
  | .inr _ :: _, ns, h => by cases h
def hashL : List (List Key) → Option (List Int)
  | [] => some []
  | k :: r => match intsK k, hashL r with
    | some ns, some hs => some (hashT ns :: hs)
    | _, _ => none
theorem hashL_eq {P : Program} {w : World} : ∀ {ks : List (List Key)} {hs : List Int}, hashL ks = some hs → ks.map (tupleKind (mixKind P w)).hash = hs
  | [], hs, h => by cases h; rfl
  | k :: r, hs, h => by
    unfold hashL at h
    split at h
    · rename_i ns hs' h1 h2
      cases h
      rw [List.map_cons, hashL_eq h2]
      show reduceHash (Builtin.Tuple.tupleHashOf (k.map (mixKind P w).hash)) :: _ = _
      rw [intsK_eq h1]; rfl
    · cases h
/-- no two keys hash alike -/
def apartB (ks : List (List Key)) : Bool := match hashL ks with
  | some hs => decide hs.Nodup
  | none => decide (ks.length ≤ 1)
theorem apart_ok {P : Program} {w : World} {ks : List (List Key)} (h : apartB ks = true) : (ks.map (tupleKind (mixKind P w)).hash).Nodup := by
  unfold apartB at h
  split at h
  · rename_i hs e
    rw [hashL_eq e]
    exact of_decide_eq_true h
  · have h := of_decide_eq_true h
    match ks, h with
    | [], _ => simp
    | [_], _ => simp

section
variable {X : Cx} {pins : List (Addr × Obj)} {σ : L2.St} {H : Hp} {s : Shared}
def rUpdK : V → List V → Hp → VK → Prop := fun x vs H Q => ∃ d o ks ls, x = .ref d ∧ vs = [.ref o] ∧ H d = some (.dK ks) ∧ H o = some (.dK ls) ∧ d ≠ o ∧ ks.length + ls.length ≤ sizeLine ∧ Q .non (upd H d (.dK (mergeK ks ls)))
theorem mt_updK : MtR X "dict.update" rUpdK := by
  intro pins s σ H x vs v us Q I rx rv h
  obtain ⟨d, o, ks, ls, rfl, rfl, hd, ho, hne, hz, q⟩ := h
  cases (show v = Value.ref d from rx)
  obtain ⟨u, rfl, ru⟩ := rv.one
  cases (show u = Value.ref o from ru)
  obtain ⟨z1, s1, v1, r1, d1⟩ := dk_of I.hok hd
  obtain ⟨z2, s2, v2, r2, d2⟩ := dk_of I.hok ho
  refine call_meetsIn PySem.F.slot_dict_update d1.typeIs PySem.F.entry_dict_update (PySem.F.args_dict_update_2 _ _) (meets_dict_update (mixKind X.prog X.w) d o hne s2) ⟨v1, v2, d1, d2, by rw [← r1.length, ← r2.length]; exact hz, fun h' h1 _ hs => ?_⟩
  have hl : (mergeK ks ls).length ≤ sizeLine := Nat.le_trans (length_mergeK ls ks) hz
  have hm : ∃ q, h'.get? d = some q := by obtain ⟨ob, _, _, e, _⟩ := h1; exact ⟨ob, e⟩
  exact ⟨.non, _, d_write (t' := s.toks) I (by rw [hd]; exact trivial) hs hm (dk_new hl s1 (KV.merge r2 r1) h1), rfl, q⟩
def rUpdT : V → List V → Hp → VK → Prop := fun x vs H Q => ∃ d o ks ls, x = .ref d ∧ vs = [.ref o] ∧ H d = some (.dT ks) ∧ H o = some (.dT ls) ∧ d ≠ o ∧ ks.length + ls.length ≤ sizeLine ∧ (ks ≠ [] ∨ apartB (ls.map (·.1)) = true) ∧ Q .non (upd H d (.dT (mergeG ks ls)))
theorem dt_new {P : Program} {w : World} {H' : Hp} {h' : Heap} {a : Addr} {ks : List (List Key × V)} {xs : List (List Key × Addr × Value)} (z : ks.length ≤ sizeLine) (hd : (a == sysModules) = false) (r : KT H' ks xs) (d : h'.DictOfH (tupleKind (mixKind P w)) a xs) : ObjOk P w H' h' a (.dT ks) := by
  obtain ⟨o, es, ep, h1, h2, h3, h4, _, h5⟩ := d
  exact ⟨z, hd, xs, r, o, es, ep, h1, h2, h3, h4, h5⟩
theorem tup_upd {H : Hp} {d : Addr} {o o' : HO} (h : H d = some o') (nt : ∀ xs, o' ≠ .tup xs) : ∀ b ys, H b = some (.tup ys) → upd H d o b = some (.tup ys) := fun b ys e => by
  rw [upd_ne (fun z => by subst z; rw [h] at e; exact nt ys (Option.some.inj e))]
  exact e
theorem mt_updT (hu : X.A.units + 64 < cLine) : MtR X "dict.update" rUpdT := by
  intro pins s σ H x vs v us Q I rx rv h
  obtain ⟨d, o, ks, ls, rfl, rfl, hd, ho, hne, hz, hap, q⟩ := h
  cases (show v = Value.ref d from rx)
  obtain ⟨u, rfl, ru⟩ := rv.one
  cases (show u = Value.ref o from ru)
  obtain ⟨z1, s1, v1, r1, d1⟩ := dt_of I.hok hd
  obtain ⟨z2, s2, v2, r2, d2⟩ := dt_of I.hok ho
  have l1 : ks.length = v1.length := Paired.length r1
  have l2 : ls.length = v2.length := Paired.length r2
  have ek : ls.map (·.1) = v2.map (·.1) := by
    clear d2 l2 z2 hz hap q ho
    induction r2 with
    | nil => rfl
    | cons h t ih => rw [List.map_cons, List.map_cons, h.1, ih]
  refine PySem.call_update_dictH (knd := tupleKind (mixKind X.prog X.w)) (by show X.A.units + 1 < cLine; omega) hne s2 d1 d2 ?_ (by omega) fun h' h1 _ hs => ?_
  · rcases hap with hap | hap
    · left
      intro z
      subst z
      cases ks with
      | nil => exact hap rfl
      | cons a b => cases l1
    · right
      refine ⟨fun x hx => ?_, ?_⟩
      · obtain ⟨_, _, _, _, _, _, _, his, _⟩ := id d2
        obtain ⟨ot, its, n, e1, e2, _⟩ := his x hx
        exact ⟨ot, e1, e2⟩
      · have := apart_ok (P := X.prog) (w := X.w) hap
        rw [ek, List.map_map] at this
        exact this
  · have hl : (mergeG ks ls).length ≤ sizeLine := Nat.le_trans (mergeG_len ls ks) hz
    have hm : ∃ q, h'.get? d = some q := by obtain ⟨ob, _, _, e, _⟩ := h1; exact ⟨ob, e⟩
    have tu := tup_upd (o := .dT (mergeG ks ls)) hd (fun _ z => by cases z)
    exact ⟨.non, _, d_write (t' := s.toks) I (by rw [hd]; exact trivial) hs hm (dt_new hl s1 (KT.mergeT (r2.keeps tu) (r1.keeps tu)) h1), rfl, q⟩
end

/-! ### dict(pairs), tuple keys -/
theorem pairsT_of {X : Cx} {pins : List (Addr × Obj)} {σ : L2.St} {H : Hp} {s : Shared} (I : Inv X pins σ H s) : ∀ {ps : List Addr} {kvs : List (List Key × V)}, Paired (fun p kv => ∃ b, H p = some (.tup [.ref b, kv.2]) ∧ H b = some (.tup (kv.1.map kV))) ps kvs →
    ∃ prs : List (List Key × Addr × Value), KT H kvs prs ∧ prs.length = ps.length ∧ ∀ (j : Nat) (q : List Key × Addr × Value), prs[j]? = some q → ∃ (b : Addr), ps[j]? = some b ∧ IsTup s.heap b #[.ref q.2.1, q.2.2]
  | _, _, .nil => ⟨[], .nil, rfl, fun j q e => by simp at e⟩
  | _, _, .cons (a := p) (b := kv) h t => by
    obtain ⟨prs, r, hl, hp⟩ := pairsT_of I t
    obtain ⟨b, h1, h2⟩ := h
    obtain ⟨its, rv, ht, _⟩ := I.tuple (SqT.of h1)
    obtain ⟨u, y, ei, ru, ry⟩ := vals2 rv
    subst ei
    cases (show u = Value.ref b from ru)
    refine ⟨(kv.1, b, y) :: prs, .cons ⟨rfl, h2, ry⟩ r, by rw [List.length_cons, List.length_cons, hl], fun j q e => ?_⟩
    cases j with
    | zero =>
      have e' : (kv.1, b, y) = q := Option.some.inj e
      subst e'
      exact ⟨p, rfl, ht⟩
    | succ j =>
      obtain ⟨b', e1, e2⟩ := hp j q (by simpa using e)
      exact ⟨b', by simpa using e1, e2⟩
def rDictT (K : PySem.W.Frag) : List V → Hp → VK → Prop := fun xs H Q => ∃ (a : Addr) (ps : List Addr) (kvs : List (List Key × V)), xs = [.ref a] ∧ SqL K H a (ps.map V.ref) ∧ Paired (fun p kv => ∃ b, H p = some (.tup [.ref b, kv.2]) ∧ H b = some (.tup (kv.1.map kV))) ps kvs ∧
    ∀ p, H p = none → Q (.ref p) (upd H p (.dT (mergeG [] kvs)))
theorem call_dictT {X : Cx} (hc : X.calm = true) (hu : X.A.units + 64 < cLine) : CallR X (.type "dict") (rDictT X.K) := by
  intro pins s σ H xs us Q I r h
  obtain ⟨a, ps, kvs, rfl, hq, hp, q⟩ := h
  obtain ⟨u, rfl, rx⟩ := vals1 r
  cases (show u = Value.ref a from rx)
  obtain ⟨its, rv, pl, hz⟩ := I.list hq
  have ei := refs_at rv
  subst ei
  rw [List.length_map] at hz
  obtain ⟨prs, rel, hl, hpr⟩ := pairsT_of I hp
  obtain ⟨o, n, ho, hcl, hd, hdat⟩ := pl
  have hkey : ∀ x ∈ prs, (tupleKind (mixKind X.prog X.w)).is s.heap x.1 x.2.1 := by
    clear hpr hl hp hq q
    induction rel with
    | nil => intro x hx; cases hx
    | cons h t ih =>
      intro x hx
      rcases List.mem_cons.mp hx with e | hx
      · subst e
        exact key_of I.hok (by rw [← h.1]; exact h.2.1)
      · exact ih x hx
  refine PySem.call_dict_pairsH (knd := tupleKind (mixKind X.prog X.w)) (ps := prs)
    (PairArg.list a (ps.map Value.ref).toArray (fun j => ps.getD j 0) (prs.map fun q => (Value.ref q.2.1, q.2.2))) (I.ok.hd hc) (by show X.A.units + 1 + 1 < cLine; omega) ⟨⟨o, n, ho, hcl, hd, hdat⟩, ?_, ?_⟩ ⟨by rw [List.length_map], ?_⟩ ?_ (by rw [List.length_map, hl]; exact hz) fun h' tk hd' k => ?_
  · rw [List.length_map, List.size_toArray, List.length_map, hl]
  · intro j k v e
    rw [List.getElem?_map] at e
    obtain ⟨p, e1, e2⟩ := Option.map_eq_some_iff.mp e
    cases e2
    obtain ⟨b, e3, e4⟩ := hpr j p e1
    have e5 : ps.getD j 0 = b := by simp [List.getD, e3]
    refine ⟨?_, .inl (by show s.heap.IsTuple (ps.getD j 0) _; rw [e5]; exact e4)⟩
    show (ps.map Value.ref).toArray[j]? = some (.ref (ps.getD j 0))
    rw [e5, List.getElem?_toArray, List.getElem?_map, e3]
    rfl
  · intro i key v e
    have e : (prs.map fun q => (Value.ref q.2.1, q.2.2))[i]? = some (key, v) := e
    rw [List.getElem?_map] at e
    obtain ⟨p, e1, e2⟩ := Option.map_eq_some_iff.mp e
    cases e2
    exact ⟨p.1, p.2.1, e1, rfl⟩
  · intro h' hk x hx
    obtain ⟨ot, itt, m, h1, h2, h3, h4⟩ := hkey x hx
    exact ⟨ot, itt, m, hk _ _ (Nat.ne_of_lt (Heap.lt_size h1)) (by simp) h1, h2, h3, h4⟩
  · have hm : (s.heap.objs.size == sysModules) = false := beq_eq_false_iff_ne.mpr (Nat.ne_of_gt I.big)
    have hlen : (mergeG [] kvs).length ≤ sizeLine := by
      refine Nat.le_trans (mergeG_len kvs []) ?_
      have := Paired.length rel
      rw [List.length_nil, Nat.zero_add, this, hl]
      exact hz
    have hf := I.hok.fresh (Nat.le_refl _)
    have tu : ∀ b ys, H b = some (.tup ys) → upd H s.heap.objs.size (.dT (mergeG [] kvs)) b = some (.tup ys) := fun b ys e => by
      rw [upd_ne (ne_of_none e hf)]; exact e
    exact ⟨.ref s.heap.objs.size, _, I.laid (t' := tk) (fun b o e => k b o (by simp) e) (Nat.le_refl _) (dt_new hlen hm (KT.mergeT (rel.keeps tu) .nil) hd'), rfl, q _ hf⟩
end NL
end
section
set_option Elab.async false
set_option linter.all false
set_option maxRecDepth 100000
set_option maxHeartbeats 4000000
/-! Built-in functions and methods, by values. -/
namespace NL
open PySem PySem.Spec PyProof.Rows L2
open PySem.W (EachIs AllAlike Sortable dataLe)

def CallOk (γ : Gc) (f : Store → List AV → Option AV) (r : List V → Hp → VK → Prop) : Prop :=
  ∀ (w : Wd) (st : Store) (H : Hp) (xs : List AV) (us : List V) (z : AV) (Q : VK), ConS γ w st H → ConVs γ.K w H xs us → f st xs = some z →
    (∀ q H', Ext w.al H H' → ConS γ w st H' → ConV γ.K w H' z q → Q q H') → r us H Q
def MetOk (γ : Gc) (f : Store → AV → List AV → Option (AV × Store)) (r : V → List V → Hp → VK → Prop) : Prop :=
  ∀ (w : Wd) (st st' : Store) (H : Hp) (x : AV) (u : V) (xs : List AV) (us : List V) (z : AV) (Q : VK), ConS γ w st H → ConV γ.K w H x u → ConVs γ.K w H xs us → f st x xs = some (z, st') →
    (∀ q H', Ext w.al H H' → ConS γ w st' H' → ConV γ.K w H' z q → Q q H') → r u us H Q
theorem CallOk.or1 {γ : Gc} {f : Store → List AV → Option AV} {r r' : List V → Hp → VK → Prop} (h : CallOk γ f r) : CallOk γ f (fun xs H Q => r xs H Q ∨ r' xs H Q) := fun w st H xs us z Q c a e k => .inl (h w st H xs us z Q c a e k)
def oneOfC (f g : Store → List AV → Option AV) : Store → List AV → Option AV := fun st xs => match f st xs with
  | some z => some z
  | none => g st xs
theorem CallOk.one {γ : Gc} {f g : Store → List AV → Option AV} {r r' : List V → Hp → VK → Prop} (h : CallOk γ f r) (h' : CallOk γ g r') : CallOk γ (oneOfC f g) (fun xs H Q => r xs H Q ∨ r' xs H Q) :=
  fun w st H xs us z Q c a e k => by
    unfold oneOfC at e
    split at e
    · rename_i z' e'
      cases e
      exact .inl (h w st H xs us z Q c a e' k)
    · exact .inr (h' w st H xs us z Q c a e k)
section
variable {K : PySem.W.Frag} {w : Wd} {H : Hp}
theorem cv1 {x : AV} {us : List V} (h : ConVs K w H [x] us) : ∃ u, us = [u] ∧ ConV K w H x u := by
  cases h with
  | cons h t => cases t; exact ⟨_, rfl, h⟩
theorem cv2 {x y : AV} {us : List V} (h : ConVs K w H [x, y] us) : ∃ u v, us = [u, v] ∧ ConV K w H x u ∧ ConV K w H y v := by
  cases h with
  | cons h t => cases t with
    | cons h' t => cases t; exact ⟨_, _, rfl, h, h'⟩
end

/-! ### len -/
def gLen1 : Store → List AV → Option AV := fun st xs => match xs with
  | [.z ns] => some (.d (.int ns.length))
  | [.d (.str z)] => if z.length ≤ sizeLine then some (.d (.int z.length)) else none
  | [x] => (sq st x).map fun ds => .d (.int ds.length)
  | _ => none
theorem gLen1_ok {γ : Gc} : CallOk γ gLen1 (fun xs H Q => ∃ x n, xs = [x] ∧ LenV γ.K x H n ∧ Q (.int n) H) := by
  intro w st H xs us z Q c a e k
  unfold gLen1 at e
  split at e
  · cases e
    obtain ⟨u, rfl, b, rfl, hz⟩ := cv1 a
    have hs := hz.sq
    exact ⟨_, _, rfl, .inl ⟨_, hs, rfl⟩, k _ H (Ext.refl _ _) c (by rw [List.length_map]; exact FD.int _)⟩
  · split at e
    · cases e
      obtain ⟨u, rfl, r⟩ := cv1 a
      cases r
      exact ⟨_, _, rfl, ⟨by assumption, rfl⟩, k _ H (Ext.refl _ _) c (FD.int _)⟩
    · cases e
  · obtain ⟨ds, e1, rfl⟩ := Option.map_eq_some_iff.mp e
    obtain ⟨u, rfl, r⟩ := cv1 a
    obtain ⟨p, vs, rfl, hp, hf⟩ := sq_at c r e1
    rcases hp with hp | hp
    · exact ⟨_, vs.length, rfl, .inl ⟨_, SqL.of hp, rfl⟩, k _ H (Ext.refl _ _) c (by rw [hf.length]; exact FD.int _)⟩
    · exact ⟨_, vs.length, rfl, .inr ⟨_, SqT.of hp, rfl⟩, k _ H (Ext.refl _ _) c (by rw [hf.length]; exact FD.int _)⟩
  · cases e
def gLen2 : Store → List AV → Option AV := fun st xs => match xs with
  | [x] => (dcOf st x).map fun c => .d (.int c.len)
  | _ => none
def rLen2 : List V → Hp → VK → Prop := fun xs H Q => (∃ a kvs, xs = [V.ref a] ∧ H a = some (.dK kvs) ∧ Q (.int kvs.length) H) ∨ rLenT xs H Q
theorem gLen2_ok {γ : Gc} : CallOk γ gLen2 rLen2 := by
  intro w st H xs us z Q c a e k
  unfold gLen2 at e
  split at e
  · obtain ⟨d, e1, rfl⟩ := Option.map_eq_some_iff.mp e
    obtain ⟨u, rfl, r⟩ := cv1 a
    obtain ⟨p, rfl, hd⟩ := dc_at c r e1
    cases d with
    | k kvs =>
      obtain ⟨ws, h1, h2⟩ := hd
      exact .inl ⟨p, ws, rfl, h1, k _ H (Ext.refl _ _) c (by rw [Paired.length h2]; exact FD.int _)⟩
    | t kvs =>
      obtain ⟨ws, h1, h2⟩ := hd
      exact .inr ⟨p, ws, rfl, h1, k _ H (Ext.refl _ _) c (by rw [Paired.length h2]; exact FD.int _)⟩
  · cases e
def gLen := oneOfC gLen1 gLen2
def rLen (K : PySem.W.Frag) : List V → Hp → VK → Prop := fun xs H Q => (∃ x n, xs = [x] ∧ LenV K x H n ∧ Q (.int n) H) ∨ rLen2 xs H Q
theorem gLen_ok {γ : Gc} : CallOk γ gLen (rLen γ.K) := CallOk.one gLen1_ok gLen2_ok
theorem call_lenA {X : Cx} : CallR X (.builtin "len") (rLen X.K) := call_len.or (call_lenD.or call_len_dT)

/-! ### int, bool, max, min, abs -/
def gInt : Store → List AV → Option AV := fun _ xs => match xs with
  | [.d (.int i)] => some (.d (.int i))
  | [.d (.bool b)] => some (.d (.int (if b then 1 else 0)))
  | _ => none
theorem gInt_ok {γ : Gc} : CallOk γ gInt (fun xs H Q => (∃ i, xs = [.int i] ∧ Q (.int i) H) ∨ ∃ k, xs = [.bl k] ∧ Q (.int (if k then 1 else 0)) H) := by
  intro w st H xs us z Q c a e k
  unfold gInt at e
  split at e
  · cases e
    obtain ⟨u, rfl, r⟩ := cv1 a
    cases r
    exact .inl ⟨_, rfl, k _ H (Ext.refl _ _) c (FD.int _)⟩
  · cases e
    obtain ⟨u, rfl, r⟩ := cv1 a
    cases r
    exact .inr ⟨_, rfl, k _ H (Ext.refl _ _) c (FD.int _)⟩
  · cases e
def gTwo (f : Int → Int → Int) : Store → List AV → Option AV := fun _ xs => match xs with
  | [.d (.int i), .d (.int j)] => some (.d (.int (f i j)))
  | _ => none
theorem gTwo_ok {γ : Gc} {f : Int → Int → Int} : CallOk γ (gTwo f) (fun xs H Q => ∃ i j, xs = [.int i, .int j] ∧ Q (.int (f i j)) H) := by
  intro w st H xs us z Q c a e k
  unfold gTwo at e
  split at e
  · cases e
    obtain ⟨u, v, rfl, r, r'⟩ := cv2 a
    cases r
    cases r'
    exact ⟨_, _, rfl, k _ H (Ext.refl _ _) c (FD.int _)⟩
  · cases e
def gMax := gTwo fun i j => if j > i then j else i
def gMin := gTwo fun i j => if j < i then j else i
def gAbs : Store → List AV → Option AV := fun _ xs => match xs with
  | [.d (.int i)] => some (.d (.int (if i < 0 then -i else i)))
  | _ => none
theorem gAbs_ok {γ : Gc} : CallOk γ gAbs (fun xs H Q => ∃ i, xs = [.int i] ∧ Q (.int (if i < 0 then -i else i)) H) := by
  intro w st H xs us z Q c a e k
  unfold gAbs at e
  split at e
  · cases e
    obtain ⟨u, rfl, r⟩ := cv1 a
    cases r
    exact ⟨_, rfl, k _ H (Ext.refl _ _) c (FD.int _)⟩
  · cases e

/-! ### tuple, list -/
def gTuple : Store → List AV → Option AV := fun st xs => match xs with
  | [x] => (sq st x).map fun ds => .d (.tuple ds)
  | _ => none
theorem gTuple_ok {γ : Gc} (g : γ.Ok) : CallOk γ gTuple (fun xs H Q => ∃ p ys, xs = [.ref p] ∧ ((SqL γ.K H p ys ∧ ∀ l, H l = none → Q (.ref l) (upd H l (.tup ys))) ∨ (SqT γ.K H p ys ∧ Q (.ref p) H))) := by
  intro w st H xs us z Q c a e k
  unfold gTuple at e
  split at e
  · obtain ⟨ds, e1, rfl⟩ := Option.map_eq_some_iff.mp e
    obtain ⟨u, rfl, r⟩ := cv1 a
    obtain ⟨p, vs, rfl, hp, hf⟩ := sq_at c r e1
    rcases hp with hp | hp
    · refine ⟨p, vs, rfl, .inl ⟨SqL.of hp, fun l hl => ?_⟩⟩
      obtain ⟨e3, c3, r3⟩ := new_tup g c hf hl
      exact k _ _ e3 c3 r3
    · exact ⟨p, vs, rfl, .inr ⟨SqT.of hp, k _ H (Ext.refl _ _) c (FD.tup hp (c.tupFree hp) hf)⟩⟩
  · cases e
def gList1 : Store → List AV → Option AV := fun st xs => match xs with
  | [x] => (sq st x).map fun ds => .d (.list ds)
  | _ => none
theorem gList1_ok {γ : Gc} (g : γ.Ok) : CallOk γ gList1 (fun xs H Q => ∃ p ys, xs = [.ref p] ∧ (SqL γ.K H p ys ∨ SqT γ.K H p ys) ∧ ∀ l, H l = none → Q (.ref l) (upd H l (.lst ys))) := by
  intro w st H xs us z Q c a e k
  unfold gList1 at e
  split at e
  · obtain ⟨ds, e1, rfl⟩ := Option.map_eq_some_iff.mp e
    obtain ⟨u, rfl, r⟩ := cv1 a
    obtain ⟨p, vs, rfl, hp, hf⟩ := sq_at c r e1
    refine ⟨p, vs, rfl, sq_sq hp, fun l hl => ?_⟩
    obtain ⟨e3, c3, r3⟩ := new_lst g c hf hl
    exact k _ _ e3 c3 r3
  · cases e
theorem keysK_fds {γ : Gc} {w : Wd} {H : Hp} {ws : List (Key × V)} {kvs : List (Key × PyData)} (p : Paired (fun (p : Key × V) (q : Key × PyData) => p.1 = q.1 ∧ FD γ.K w.rh H p.2 q.2) ws kvs) : FDs γ.K w.rh H (ws.map fun kv => kV kv.1) (kvs.map fun kv => keyD kv.1) := by
  induction p with
  | nil => exact .nil
  | cons h t ih => rw [List.map_cons, List.map_cons, h.1]; exact .cons (FD.ofKey _) ih
theorem keysT_fds {γ : Gc} {w : Wd} {st : Store} {H : Hp} (c : ConS γ w st H) {ws : List (List Key × V)} {kvs : List (List Key × PyData)} (p : Paired (fun (p : List Key × V) (q : List Key × PyData) => p.1 = q.1 ∧ FD γ.K w.rh H p.2 q.2) ws kvs) :
    ∀ {bs : List Addr}, IsKeys H ws bs → FDs γ.K w.rh H (bs.map V.ref) (kvs.map fun kv => keysD kv.1) := by
  induction p with
  | nil => intro bs h; cases h; exact .nil
  | cons h t ih =>
    intro bs hb
    cases hb with
    | cons h1 h2 =>
      rw [List.map_cons, List.map_cons, ← h.1]
      exact .cons (FD.tup h1 (c.tupFree h1) (FDs.ofKeys _)) (ih h2)
def gList2 : Store → List AV → Option AV := fun st xs => match xs with
  | [x] => (dcOf st x).map fun c => .d (.list c.keys)
  | _ => none
def rList2 : List V → Hp → VK → Prop := fun xs H Q => rListD xs H Q ∨ ∃ d kvs, xs = [V.ref d] ∧ Rd H d (.dT kvs) ∧ ∀ p bs, H p = none → IsKeys H kvs bs → Q (.ref p) (upd H p (.lst (bs.map V.ref)))
theorem gList2_ok {γ : Gc} (g : γ.Ok) : CallOk γ gList2 rList2 := by
  intro w st H xs us z Q c a e k
  unfold gList2 at e
  split at e
  · obtain ⟨d, e1, rfl⟩ := Option.map_eq_some_iff.mp e
    obtain ⟨u, rfl, r⟩ := cv1 a
    obtain ⟨p, rfl, hd⟩ := dc_at c r e1
    cases d with
    | k kvs =>
      obtain ⟨ws, h1, h2⟩ := hd
      refine .inl ⟨p, ws, rfl, h1, fun l hl => ?_⟩
      obtain ⟨e3, c3, r3⟩ := new_lst g c (keysK_fds h2) hl
      exact k _ _ e3 c3 r3
    | t kvs =>
      obtain ⟨ws, h1, h2⟩ := hd
      refine .inr ⟨p, ws, rfl, .inl h1, fun l bs hl hb => ?_⟩
      obtain ⟨e3, c3, r3⟩ := new_lst g c (keysT_fds c h2 hb) hl
      exact k _ _ e3 c3 r3
  · cases e
def gList := oneOfC gList1 gList2
def rList (K : PySem.W.Frag) : List V → Hp → VK → Prop := fun xs H Q => (∃ p ys, xs = [.ref p] ∧ (SqL K H p ys ∨ SqT K H p ys) ∧ ∀ l, H l = none → Q (.ref l) (upd H l (.lst ys))) ∨ rList2 xs H Q
theorem gList_ok {γ : Gc} (g : γ.Ok) : CallOk γ gList (rList γ.K) := CallOk.one (gList1_ok g) (gList2_ok g)
theorem call_listA {X : Cx} (hc : X.calm = true) : CallR X (.type "list") (rList X.K) := call_list_of.or ((call_list_dK hc).or (call_list_dT hc))

/-! ### sorted -/
def alikeB (ds : List PyData) : Bool := ds.all fun d => ds.all fun e => PySem.W.alike d e
def isTupN : PyData → Bool
  | .tuple (_ :: _) => true
  | _ => false
def isFlat : PyData → Bool
  | .none => false
  | .tuple _ => false
  | _ => true
def sortB (ds : List PyData) : Bool := alikeB ds && (ds.all isTupN || ds.all isFlat) && ds.all fun d => decide (d.depth ≤ 60)
theorem sortB_ok {ds : List PyData} (h : sortB ds = true) : AllAlike ds ∧ Sortable ds ∧ ∀ d ∈ ds, d.depth ≤ 60 := by
  unfold sortB alikeB at h
  simp only [Bool.and_eq_true, Bool.or_eq_true, List.all_eq_true, decide_eq_true_eq] at h
  refine ⟨fun d hd e he => h.1.1 d hd e he, ?_, h.2⟩
  rcases h.1.2 with h | h
  · left
    intro d hd
    have := h d hd
    cases d with
    | tuple xs => cases xs with
      | nil => cases this
      | cons x r => exact ⟨x, r, rfl⟩
    | _ => cases this
  · right
    intro d hd
    have := h d hd
    cases d <;> simp [isFlat] at this ⊢
theorem fds_pair {K : PySem.W.Frag} {rh : Addr → Prop} {H : Hp} : ∀ {vs : List V} {ds : List PyData}, FDs K rh H vs ds ↔ Paired (FD K rh H) vs ds := fun {vs ds} => ⟨fun h => by
  induction ds generalizing vs with
  | nil => cases h; exact .nil
  | cons d ds ih => cases h with | cons h t => exact .cons h (ih t), fun h => by
  induction h with
  | nil => exact .nil
  | cons h t ih => exact .cons h ih⟩
def gSort1 : Store → List AV → Option AV := fun st xs => match xs with
  | [x] => match ls st x with
    | some ds => if sortB ds then some (.d (.list (ds.mergeSort leD))) else none
    | none => none
  | _ => none
theorem gSort1_ok {γ : Gc} (g : γ.Ok) : CallOk γ gSort1 (rSortL γ.K) := by
  intro w st H xs us z Q c a e k
  unfold gSort1 at e
  split at e
  · split at e
    · rename_i ds e1
      split at e
      · rename_i hs
        cases e
        obtain ⟨u, rfl, r⟩ := cv1 a
        obtain ⟨p, vs, rfl, hp, hf⟩ := ls_at c r e1
        obtain ⟨h1, h2, h3⟩ := sortB_ok hs
        refine ⟨p, vs, ds, FD γ.K w.rh H, rfl, hp, fds_pair.mp hf, fun v d h => h.dp, h1, h2, h3, fun ws q hw hq => ?_⟩
        obtain ⟨e3, c3, r3⟩ := new_lst g c (fds_pair.mpr hw) hq
        exact k _ _ e3 c3 r3
      · cases e
    · cases e
  · cases e
def gSort2 : Store → List AV → Option AV := fun st xs => match xs with
  | [x] => match dcOf st x with
    | some c => if sortB c.keys then some (.d (.list (c.keys.mergeSort leD))) else none
    | none => none
  | _ => none
theorem gSort2_ok {γ : Gc} (g : γ.Ok) : CallOk γ gSort2 (rSortK γ.K) := by
  intro w st H xs us z Q c a e k
  unfold gSort2 at e
  split at e
  · split at e
    · rename_i d e1
      split at e
      · rename_i hs
        cases e
        obtain ⟨u, rfl, r⟩ := cv1 a
        obtain ⟨p, rfl, hd⟩ := dc_at c r e1
        obtain ⟨h1, h2, h3⟩ := sortB_ok hs
        refine ⟨p, d.keys, FD γ.K w.rh H, rfl, ?_, fun ks hk => ?_, fun v d h => h.dp, h1, h2, h3, fun ws q hw hq => ?_⟩
        · cases d with
          | k kvs => obtain ⟨ws, h1, _⟩ := hd; exact .inl ⟨ws, h1⟩
          | t kvs => obtain ⟨ws, h1, _⟩ := hd; exact .inr ⟨ws, h1⟩
        · cases d with
          | k kvs =>
            obtain ⟨ws, h4, h5⟩ := hd
            rcases hk with ⟨ws', h6, rfl⟩ | ⟨ws', bs, h6, _⟩
            · rw [h4] at h6; cases h6
              exact fds_pair.mp (keysK_fds h5)
            · rw [h4] at h6; cases h6
          | t kvs =>
            obtain ⟨ws, h4, h5⟩ := hd
            rcases hk with ⟨ws', h6, rfl⟩ | ⟨ws', bs, h6, h7, rfl⟩
            · rw [h4] at h6; cases h6
            · rw [h4] at h6; cases h6
              exact fds_pair.mp (keysT_fds c h5 h7)
        · obtain ⟨e3, c3, r3⟩ := new_lst g c (fds_pair.mpr hw) hq
          exact k _ _ e3 c3 r3
      · cases e
    · cases e
  · cases e
def gSort := oneOfC gSort1 gSort2
def rSort (K : PySem.W.Frag) : List V → Hp → VK → Prop := fun xs H Q => rSortL K xs H Q ∨ rSortK K xs H Q
theorem gSort_ok {γ : Gc} (g : γ.Ok) : CallOk γ gSort (rSort γ.K) := CallOk.one (gSort1_ok g) (gSort2_ok g)
theorem call_sortA {X : Cx} (hc : X.calm = true) (hu : X.A.units + 64 < cLine) : CallR X (.builtin "sorted") (rSort X.K) := (cr_sortL hu).or (cr_sortK hc hu)

/-! ### repr -/
def reprB (d : PyData) : Bool := d.showable && !d.hasDict && decide (d.depth ≤ 60) && decide (d.shown.length ≤ sizeLine)
def isSeqD : PyData → Bool
  | .list _ => true
  | .tuple _ => true
  | _ => false
def gRepr : Store → List AV → Option AV := fun st xs => match xs with
  | [x] => match vw st x with
    | some d => if isSeqD d && reprB d then some (.d (.str d.shown)) else none
    | none => none
  | _ => none
theorem gRepr_ok {γ : Gc} : CallOk γ gRepr (rRepr γ.K) := by
  intro w st H xs us z Q c a e k
  unfold gRepr at e
  split at e
  · split at e
    · rename_i d e1
      split at e
      · rename_i hb
        cases e
        obtain ⟨u, rfl, r⟩ := cv1 a
        obtain ⟨p1, p2⟩ := vw_dp c r e1
        unfold reprB at hb
        simp only [Bool.and_eq_true, Bool.not_eq_true', decide_eq_true_eq] at hb
        obtain ⟨hs, ⟨⟨h1, h2⟩, h3⟩, h4⟩ := hb
        refine ⟨u, d, rfl, p1, ?_, h1, h2, h3, h4, k _ H (Ext.refl _ _) c (FD.str _)⟩
        cases d with
        | list ys => cases p1; exact ⟨_, rfl⟩
        | tuple ys => cases p1; exact ⟨_, rfl⟩
        | _ => cases hs
      · cases e
    · cases e
  · cases e

/-! ### dict(pairs) -/
def pairsK : List PyData → Option (List (Key × PyData))
  | [] => some []
  | .tuple [a, b] :: r => match toKey a, pairsK r with
    | some k, some ps => some ((k, b) :: ps)
    | _, _ => none
  | _ => none
def pairsT : List PyData → Option (List (List Key × PyData))
  | [] => some []
  | .tuple [a, b] :: r => match toKeys a, pairsT r with
    | some k, some ps => some ((k, b) :: ps)
    | _, _ => none
  | _ => none
def mergeD {κ : Type} [DecidableEq κ] (ks ls : List (κ × PyData)) : List (κ × PyData) := ls.foldl (fun acc kv => putD acc kv.1 kv.2) ks
theorem merge_pair {κ : Type} [DecidableEq κ] {K : PySem.W.Frag} {rh : Addr → Prop} {H : Hp} : ∀ {ls : List (κ × V)} {ms : List (κ × PyData)} {ks : List (κ × V)} {js : List (κ × PyData)},
    Paired (fun (p : κ × V) (q : κ × PyData) => p.1 = q.1 ∧ FD K rh H p.2 q.2) ls ms → Paired (fun (p : κ × V) (q : κ × PyData) => p.1 = q.1 ∧ FD K rh H p.2 q.2) ks js →
    Paired (fun (p : κ × V) (q : κ × PyData) => p.1 = q.1 ∧ FD K rh H p.2 q.2) (mergeG ks ls) (mergeD js ms)
  | _, _, ks, js, .nil, r => r
  | _, _, ks, js, .cons (a := l) (b := m) h t, r => by
    have h1 : Paired (fun (p : κ × V) (q : κ × PyData) => p.1 = q.1 ∧ FD K rh H p.2 q.2) (putK ks l.1 l.2) (putD js m.1 m.2) := by
      have e := h.1
      rw [← e]
      exact put_pair r l.1 h.2
    have h2 := merge_pair t h1
    exact h2
theorem mergeD_len {κ : Type} [DecidableEq κ] : ∀ (ls ks : List (κ × PyData)), (mergeD ks ls).length ≤ ks.length + ls.length
  | [], ks => Nat.le_refl _
  | l :: ls, ks => by
    have h1 := mergeD_len ls (putD ks l.1 l.2)
    have h2 := put_len ks l.1 l.2
    show (mergeD (putD ks l.1 l.2) ls).length ≤ _
    rw [List.length_cons]; omega
theorem pairsK_at {K : PySem.W.Frag} {rh : Addr → Prop} {H : Hp} : ∀ {ds : List PyData} {ps : List (Key × PyData)} {vs : List V}, pairsK ds = some ps → FDs K rh H vs ds →
    ∃ (as : List Addr) (kvs : List (Key × V)), vs = as.map V.ref ∧ Paired (fun p (kv : Key × V) => SqT K H p [kV kv.1, kv.2]) as kvs ∧ Paired (fun (p : Key × V) (q : Key × PyData) => p.1 = q.1 ∧ FD K rh H p.2 q.2) kvs ps
  | [], ps, vs, h, f => by cases h; cases f; exact ⟨[], [], rfl, .nil, .nil⟩
  | d :: r, ps, vs, h, f => by
    unfold pairsK at h
    split at h
    · rename_i q; cases q
    · rename_i a b r' e
      cases e
      split at h
      · rename_i k ps' h1 h2
        cases h
        cases f with
        | cons f1 f2 =>
          obtain ⟨as, kvs, e1, e2, e3⟩ := pairsK_at h2 f2
          cases f1 with
          | tup g1 g2 g3 =>
            cases g3 with
            | cons g4 g5 =>
              cases g5 with
              | cons g6 g7 =>
                cases g7
                have e4 := toKey_eq h1
                subst e4
                have e5 := FD.key g4
                subst e5
                subst e1
                exact ⟨_ :: as, (k, _) :: kvs, rfl, .cons (SqT.of g1) e2, .cons ⟨rfl, g6⟩ e3⟩
      · cases h
    · cases h
theorem pairsT_at {K : PySem.W.Frag} {rh : Addr → Prop} {H : Hp} : ∀ {ds : List PyData} {ps : List (List Key × PyData)} {vs : List V}, pairsT ds = some ps → FDs K rh H vs ds →
    ∃ (as : List Addr) (kvs : List (List Key × V)), vs = as.map V.ref ∧ Paired (fun p (kv : List Key × V) => ∃ b, H p = some (.tup [.ref b, kv.2]) ∧ H b = some (.tup (kv.1.map kV))) as kvs ∧ Paired (fun (p : List Key × V) (q : List Key × PyData) => p.1 = q.1 ∧ FD K rh H p.2 q.2) kvs ps
  | [], ps, vs, h, f => by cases h; cases f; exact ⟨[], [], rfl, .nil, .nil⟩
  | d :: r, ps, vs, h, f => by
    unfold pairsT at h
    split at h
    · rename_i q; cases q
    · rename_i a b r' e
      cases e
      split at h
      · rename_i k ps' h1 h2
        cases h
        cases f with
        | cons f1 f2 =>
          obtain ⟨as, kvs, e1, e2, e3⟩ := pairsT_at h2 f2
          cases f1 with
          | tup g1 g2 g3 =>
            cases g3 with
            | cons g4 g5 =>
              cases g5 with
              | cons g6 g7 =>
                cases g7
                have e4 := toKeys_eq h1
                subst e4
                obtain ⟨b', e5, _, e6⟩ := FD.keysT g4
                subst e5
                subst e1
                exact ⟨_ :: as, (k, _) :: kvs, rfl, .cons ⟨b', g1, e6⟩ e2, .cons ⟨rfl, g6⟩ e3⟩
      · cases h
    · cases h
theorem new_dct {γ : Gc} {w : Wd} {st : Store} {H : Hp} {p : Addr} (g : γ.Ok) (c : ConS γ w st H) {o : HO} {d : DC} (hp : H p = none) (hd : ∀ H', Ext w.al H H' → H' p = some o → DcAt γ.K w.rh H' p d) :
    Ext w.al H (upd H p o) ∧ ConS γ w st (upd H p o) ∧ ConV γ.K w (upd H p o) (.c d) (.ref p) := by
  obtain ⟨c', e⟩ := c.laid g (o := o) hp
  exact ⟨e, c', p, rfl, c.fresh hp, hd _ e upd_same⟩
theorem mergeK_eq (ks ls : List (Key × V)) : mergeK ks ls = mergeG ks ls := rfl
/-- dict(xs): k for int and text keys, t for tuples -/
def gDictK : Store → List AV → Option AV := fun st xs => match xs with
  | [x] => match ls st x with
    | some ds => (pairsK ds).map fun ps => .c (.k (mergeD [] ps))
    | none => none
  | _ => none
theorem gDictK_ok {γ : Gc} (g : γ.Ok) : CallOk γ gDictK (fun xs H Q => ∃ (a : Addr) (ps : List Addr) (kvs : List (Key × V)), xs = [.ref a] ∧ SqL γ.K H a (ps.map V.ref) ∧ Paired (fun p kv => SqT γ.K H p [kV kv.1, kv.2]) ps kvs ∧
    ∀ p, H p = none → Q (.ref p) (upd H p (.dK (mergeK [] kvs)))) := by
  intro w st H xs us z Q c a e k
  unfold gDictK at e
  split at e
  · split at e
    · rename_i ds e1
      obtain ⟨ps, e2, rfl⟩ := Option.map_eq_some_iff.mp e
      obtain ⟨u, rfl, r⟩ := cv1 a
      obtain ⟨p, vs, rfl, hp, hf⟩ := ls_at c r e1
      obtain ⟨as, kvs, rfl, h1, h2⟩ := pairsK_at e2 hf
      refine ⟨p, as, kvs, rfl, SqL.of hp, h1, fun q hq => ?_⟩
      obtain ⟨e3, c3, r3⟩ := new_dct g c (o := .dK (mergeK [] kvs)) (d := .k (mergeD [] ps)) hq fun H' e' h' => ⟨_, h', by rw [mergeK_eq]; exact merge_pair (paired_imp h2 fun _ _ q => ⟨q.1, FD.ext e' c.sub q.2⟩) .nil⟩
      exact k _ _ e3 c3 r3
    · cases e
  · cases e
def gDictT : Store → List AV → Option AV := fun st xs => match xs with
  | [x] => match ls st x with
    | some ds => (pairsT ds).map fun ps => .c (.t (mergeD [] ps))
    | none => none
  | _ => none
theorem gDictT_ok {γ : Gc} (g : γ.Ok) : CallOk γ gDictT (rDictT γ.K) := by
  intro w st H xs us z Q c a e k
  unfold gDictT at e
  split at e
  · split at e
    · rename_i ds e1
      obtain ⟨ps, e2, rfl⟩ := Option.map_eq_some_iff.mp e
      obtain ⟨u, rfl, r⟩ := cv1 a
      obtain ⟨p, vs, rfl, hp, hf⟩ := ls_at c r e1
      obtain ⟨as, kvs, rfl, h1, h2⟩ := pairsT_at e2 hf
      refine ⟨p, as, kvs, rfl, SqL.of hp, h1, fun q hq => ?_⟩
      obtain ⟨e3, c3, r3⟩ := new_dct g c (o := .dT (mergeG [] kvs)) (d := .t (mergeD [] ps)) hq fun H' e' h' => ⟨_, h', merge_pair (paired_imp h2 fun _ _ q => ⟨q.1, FD.ext e' c.sub q.2⟩) .nil⟩
      exact k _ _ e3 c3 r3
    · cases e
  · cases e

/-! ### methods of cells -/
theorem cell_len {γ : Gc} {w : Wd} {st : Store} {H : Hp} (c : ConS γ w st H) {l : Nat} {a : Addr} (h : w.al[l]? = some a) : l < st.length := by
  rw [← c.len]; exact (List.getElem?_eq_some_iff.mp h).1
def mAppend : Store → AV → List AV → Option (AV × Store) := fun st x xs => match x, xs with
  | .r l, [.d y] => match st[l]? with
    | some (.l ys) => if ys.length < sizeLine then some (.d .none, st.set l (.l (ys ++ [y]))) else none
    | _ => none
  | _, _ => none
theorem mAppend_ok {γ : Gc} (g : γ.Ok) : MetOk γ mAppend rAppend := by
  intro w st st' H x u xs us z Q c a b e k
  unfold mAppend at e
  split at e
  · split at e
    · rename_i l y _ ys e1
      split at e
      · rename_i hz
        cases e
        obtain ⟨p, h1, rfl⟩ := a
        obtain ⟨v, rfl, r⟩ := cv1 b
        obtain ⟨vs, h2, h3⟩ := c.cell _ _ _ h1 e1
        refine ⟨p, vs, v, rfl, rfl, h2, by rw [h3.length]; exact hz, ?_⟩
        have ee : Ext w.al H (upd H p (.lst (vs ++ [v]))) := Ext.upd (.inr (List.mem_of_getElem? h1))
        obtain ⟨c3, e3⟩ := c.write g h1 (cell_len c h1) (cl := .l (ys ++ [y])) (o := .lst (vs ++ [v])) ⟨_, upd_same, (h3.ext ee c.sub).append (.cons (FD.ext ee c.sub r) .nil)⟩
        exact k _ _ e3 c3 FD.non
      · cases e
    · cases e
  · cases e
def mExtend : Store → AV → List AV → Option (AV × Store) := fun st x xs => match x, xs with
  | .r l, [y] => match st[l]?, ls st y with
    | some (.l ys), some zs => if ys.length + zs.length ≤ sizeLine then some (.d .none, st.set l (.l (ys ++ zs))) else none
    | _, _ => none
  | _, _ => none
theorem mExtend_ok {γ : Gc} (g : γ.Ok) : MetOk γ mExtend rExtend := by
  intro w st st' H x u xs us z Q c a b e k
  unfold mExtend at e
  split at e
  · split at e
    · rename_i l y _ _ ys zs e1 e2
      split at e
      · rename_i hz
        cases e
        obtain ⟨p, h1, rfl⟩ := a
        obtain ⟨v, rfl, r⟩ := cv1 b
        obtain ⟨vs, h2, h3⟩ := c.cell _ _ _ h1 e1
        obtain ⟨q, ws, rfl, h4, h5⟩ := ls_at c r e2
        refine ⟨p, q, vs, ws, rfl, rfl, h2, h4, by rw [h3.length, h5.length]; exact hz, ?_⟩
        have ee : Ext w.al H (upd H p (.lst (vs ++ ws))) := Ext.upd (.inr (List.mem_of_getElem? h1))
        obtain ⟨c3, e3⟩ := c.write g h1 (cell_len c h1) (cl := .l (ys ++ zs)) (o := .lst (vs ++ ws)) ⟨_, upd_same, (h3.ext ee c.sub).append (h5.ext ee c.sub)⟩
        exact k _ _ e3 c3 FD.non
      · cases e
    · cases e
  · cases e
def mPopAt : Store → AV → List AV → Option (AV × Store) := fun st x xs => match x, xs with
  | .r l, [.d (.int i)] => match st[l]? with
    | some (.l ys) => if 0 ≤ i ∧ i < ys.length ∧ ltB i (2 ^ 62) = true then match ys[i.toNat]? with
        | some y => some (.d y, st.set l (.l (ys.eraseIdx i.toNat)))
        | none => none
      else none
    | _ => none
  | _, _ => none
theorem mPopAt_ok {γ : Gc} (g : γ.Ok) : MetOk γ mPopAt rPopAt := by
  intro w st st' H x u xs us z Q c a b e k
  unfold mPopAt at e
  split at e
  · split at e
    · rename_i l i _ ys e1
      split at e
      · rename_i hz
        have hlt := ltB_of hz.2.2
        rw [p62] at hlt
        split at e
        · rename_i y e2
          cases e
          obtain ⟨p, h1, rfl⟩ := a
          obtain ⟨v, rfl, r⟩ := cv1 b
          cases r
          obtain ⟨vs, h2, h3⟩ := c.cell _ _ _ h1 e1
          obtain ⟨vy, h4, h5⟩ := h3.get e2
          refine ⟨p, vs, i, i.toNat, vy, rfl, rfl, h2, by omega, by omega, ?_, h4, ?_⟩
          · rw [h3.length]
            exact seqIndex_of hz.1 hz.2.1
          · have ee : Ext w.al H (upd H p (.lst (vs.eraseIdx i.toNat))) := Ext.upd (.inr (List.mem_of_getElem? h1))
            obtain ⟨c3, e3⟩ := c.write g h1 (cell_len c h1) (cl := .l (ys.eraseIdx i.toNat)) (o := .lst (vs.eraseIdx i.toNat)) ⟨_, upd_same, (h3.ext ee c.sub).eraseIdx _⟩
            exact k _ _ e3 c3 (FD.ext ee c.sub h5)
        · cases e
      · cases e
    · cases e
  · cases e
def otherCell (l : Nat) : AV → Bool
  | .r m => decide (m ≠ l)
  | _ => true
def mUpdK : Store → AV → List AV → Option (AV × Store) := fun st x xs => match x, xs with
  | .r l, [y] => match st[l]?, dcOf st y with
    | some (.d (.k ks)), some (.k js) => if otherCell l y = true ∧ ks.length + js.length ≤ sizeLine then some (.d .none, st.set l (.d (.k (mergeD ks js)))) else none
    | _, _ => none
  | _, _ => none
theorem other_ne {γ : Gc} {w : Wd} {st : Store} {H : Hp} (c : ConS γ w st H) {l : Nat} {p q : Addr} {y : AV} (h1 : w.al[l]? = some p) (r : ConV γ.K w H y (.ref q)) (o : otherCell l y = true) {d : DC} (hd : dcOf st y = some d) : p ≠ q := by
  intro z
  subst z
  cases y with
  | r m =>
    obtain ⟨a, h2, h3⟩ := r
    cases h3
    have hm : m ≠ l := of_decide_eq_true o
    obtain ⟨hm1, e1⟩ := List.getElem?_eq_some_iff.mp h1
    obtain ⟨hl1, e2⟩ := List.getElem?_eq_some_iff.mp h2
    exact hm ((List.getElem_inj c.nd).mp (e2.trans e1.symm))
  | c dc =>
    obtain ⟨a, h2, h3, _⟩ := r
    cases h2
    exact h3 (c.sub _ (List.mem_of_getElem? h1))
  | d _ => cases hd
  | z _ => cases hd
  | e _ => cases hd
theorem mUpdK_ok {γ : Gc} (g : γ.Ok) : MetOk γ mUpdK rUpdK := by
  intro w st st' H x u xs us z Q c a b e k
  unfold mUpdK at e
  split at e
  · split at e
    · rename_i l y ks js e1 e2
      split at e
      · rename_i hz
        cases e
        obtain ⟨p, h1, rfl⟩ := a
        obtain ⟨v, rfl, r⟩ := cv1 b
        obtain ⟨ws, h2, h3⟩ := c.cell _ _ _ h1 e1
        obtain ⟨q, rfl, xs', h4, h5⟩ := dc_at c r e2
        refine ⟨p, q, ws, xs', rfl, rfl, h2, h4, other_ne c h1 r hz.1 e2, by rw [Paired.length h3, Paired.length h5]; exact hz.2, ?_⟩
        have ee : Ext w.al H (upd H p (.dK (mergeK ws xs'))) := Ext.upd (.inr (List.mem_of_getElem? h1))
        obtain ⟨c3, e3⟩ := c.write g h1 (cell_len c h1) (cl := .d (.k (mergeD ks js))) (o := .dK (mergeK ws xs')) ⟨_, upd_same, by
          rw [mergeK_eq]
          exact merge_pair (paired_imp h5 fun _ _ q => ⟨q.1, FD.ext ee c.sub q.2⟩) (paired_imp h3 fun _ _ q => ⟨q.1, FD.ext ee c.sub q.2⟩)⟩
        exact k _ _ e3 c3 FD.non
      · cases e
    · cases e
  · cases e
def mUpdT : Store → AV → List AV → Option (AV × Store) := fun st x xs => match x, xs with
  | .r l, [y] => match st[l]?, dcOf st y with
    | some (.d (.t ks)), some (.t js) => if otherCell l y = true ∧ ks.length + js.length ≤ sizeLine ∧ (ks.isEmpty = false ∨ apartB (js.map (·.1)) = true) then some (.d .none, st.set l (.d (.t (mergeD ks js)))) else none
    | _, _ => none
  | _, _ => none
theorem keys_pair {κ : Type} {K : PySem.W.Frag} {rh : Addr → Prop} {H : Hp} {ws : List (κ × V)} {ks : List (κ × PyData)} (h : Paired (fun (p : κ × V) (q : κ × PyData) => p.1 = q.1 ∧ FD K rh H p.2 q.2) ws ks) : ws.map (·.1) = ks.map (·.1) := by
  induction h with
  | nil => rfl
  | cons h t ih => rw [List.map_cons, List.map_cons, h.1, ih]
theorem mUpdT_ok {γ : Gc} (g : γ.Ok) : MetOk γ mUpdT rUpdT := by
  intro w st st' H x u xs us z Q c a b e k
  unfold mUpdT at e
  split at e
  · split at e
    · rename_i l y ks js e1 e2
      split at e
      · rename_i hz
        cases e
        obtain ⟨p, h1, rfl⟩ := a
        obtain ⟨v, rfl, r⟩ := cv1 b
        obtain ⟨ws, h2, h3⟩ := c.cell _ _ _ h1 e1
        obtain ⟨q, rfl, xs', h4, h5⟩ := dc_at c r e2
        refine ⟨p, q, ws, xs', rfl, rfl, h2, h4, other_ne c h1 r hz.1 e2, by rw [Paired.length h3, Paired.length h5]; exact hz.2.1, ?_, ?_⟩
        · rcases hz.2.2 with h | h
          · left
            intro z
            subst z
            cases h3
            cases h
          · right
            rw [keys_pair h5]; exact h
        have ee : Ext w.al H (upd H p (.dT (mergeG ws xs'))) := Ext.upd (.inr (List.mem_of_getElem? h1))
        obtain ⟨c3, e3⟩ := c.write g h1 (cell_len c h1) (cl := .d (.t (mergeD ks js))) (o := .dT (mergeG ws xs')) ⟨_, upd_same, merge_pair (paired_imp h5 fun _ _ q => ⟨q.1, FD.ext ee c.sub q.2⟩) (paired_imp h3 fun _ _ q => ⟨q.1, FD.ext ee c.sub q.2⟩)⟩
        exact k _ _ e3 c3 FD.non
      · cases e
    · cases e
  · cases e
def oneOfM (f h : Store → AV → List AV → Option (AV × Store)) : Store → AV → List AV → Option (AV × Store) := fun st x xs => match f st x xs with
  | some z => some z
  | none => h st x xs
theorem MetOk.one {γ : Gc} {f h : Store → AV → List AV → Option (AV × Store)} {r r' : V → List V → Hp → VK → Prop} (p : MetOk γ f r) (p' : MetOk γ h r') : MetOk γ (oneOfM f h) (fun x xs H Q => r x xs H Q ∨ r' x xs H Q) :=
  fun w st st' H x u xs us z Q c a b e k => by
    unfold oneOfM at e
    split at e
    · rename_i z' e'
      cases e
      exact .inl (p w st st' H x u xs us z Q c a b e' k)
    · exact .inr (p' w st st' H x u xs us z Q c a b e k)
def mUpdate := oneOfM mUpdK mUpdT
def rUpdate : V → List V → Hp → VK → Prop := fun x xs H Q => rUpdK x xs H Q ∨ rUpdT x xs H Q
theorem mUpdate_ok {γ : Gc} (g : γ.Ok) : MetOk γ mUpdate rUpdate := MetOk.one (mUpdK_ok g) (mUpdT_ok g)
theorem mt_updA {X : Cx} (hu : X.A.units + 64 < cLine) : MtR X "dict.update" rUpdate := mt_updK.or (mt_updT hu)
end NL
end
section
set_option Elab.async false
set_option linter.all false
set_option maxRecDepth 100000
set_option maxHeartbeats 4000000
/-! Worlds that grow; new objects; expressions as functions of an environment and a store. -/
namespace NL
open PySem PySem.Spec PyProof.Rows L2

/-! ### worlds that grow -/
def Wd.res (w : Wd) (a : Addr) : Wd := ⟨w.al, fun b => w.rh b ∨ b = a, w.xa⟩
def Wd.add (w : Wd) (a : Addr) : Wd := ⟨w.al ++ [a], fun b => w.rh b ∨ b = a, w.xa⟩
def Nul (H : Hp) (a : Addr) : Prop := H a = none ∨ ∃ ps, H a = some (.tbl ps)
theorem Nul.not {H : Hp} {a : Addr} (n : Nul H a) {o : HO} (e : H a = some o) (t : ∀ ps, o ≠ .tbl ps) : False := by
  rcases n with n | ⟨ps, n⟩
  · rw [n] at e; cases e
  · rw [n] at e; cases e; exact t _ rfl
structure Grow (w : Wd) (H : Hp) (w' : Wd) : Prop where
  al : w.al <+: w'.al
  rh : ∀ a, w.rh a → w'.rh a
  nal : ∀ a, a ∈ w'.al → a ∈ w.al ∨ Nul H a
  nrh : ∀ a, w'.rh a → w.rh a ∨ Nul H a
  xa : w'.xa = w.xa
section
variable {γ : Gc} {K : PySem.W.Frag} {w w1 w2 w' : Wd} {st st' : Store} {H H1 H2 H' : Hp}
theorem Grow.refl (w : Wd) (H : Hp) : Grow w H w := ⟨List.prefix_refl _, fun _ h => h, fun _ h => .inl h, fun _ h => .inl h, rfl⟩
theorem Ext.grow (e : Ext w.al H H1) (g : Grow w H w1) (e' : Ext w1.al H1 H2) : Ext w.al H H2 := fun a o h n t =>
  e' a o (e a o h n t) (fun z => (g.nal a z).elim n fun q => q.not h t) t
theorem Nul.back (e : Ext w.al H H1) {a : Addr} (n : Nul H1 a) : a ∈ w.al ∨ Nul H a := by
  by_cases hm : a ∈ w.al
  · exact .inl hm
  · refine .inr ?_
    cases h : H a with
    | none => exact .inl h
    | some o =>
      by_cases ht : ∃ ps, o = .tbl ps
      · obtain ⟨ps, rfl⟩ := ht
        exact .inr ⟨ps, h⟩
      · exact (n.not (e a o h hm fun ps z => ht ⟨ps, z⟩) fun ps z => ht ⟨ps, z⟩).elim
theorem Grow.trans (s : ∀ a ∈ w.al, w.rh a) (g : Grow w H w1) (e : Ext w.al H H1) (g' : Grow w1 H1 w2) : Grow w H w2 :=
  ⟨g.al.trans g'.al, fun a h => g'.rh a (g.rh a h), fun a h => (g'.nal a h).elim (g.nal a) fun n => n.back e, fun a h => (g'.nrh a h).elim (g.nrh a) fun n => (n.back e).imp (s a) id, g'.xa.trans g.xa⟩
theorem Grow.shift (s : ∀ a ∈ w.al, w.rh a) (e : Ext w.al H H1) (g : Grow w H1 w2) : Grow w H w2 := Grow.trans s (Grow.refl w H) e g
mutual
theorem FD.grow (g : Grow w H w') (e : Ext w.al H H') (s : ∀ a ∈ w.al, w.rh a) : ∀ {v : V} {d : PyData}, FD K w.rh H v d → FD K w'.rh H' v d
  | _, _, .non => .non
  | _, _, .bl b => .bl b
  | _, _, .int i => .int i
  | _, _, .str x => .str x
  | _, _, .lst h n a => .lst (e _ _ h (fun z => n (s _ z)) (fun _ z => by cases z)) (fun z => (g.nrh _ z).elim n fun q => q.not h fun _ z => by cases z) (FDs.grow g e s a)
  | _, _, .tup h n a => .tup (e _ _ h (fun z => n (s _ z)) (fun _ z => by cases z)) (fun z => (g.nrh _ z).elim n fun q => q.not h fun _ z => by cases z) (FDs.grow g e s a)
theorem FDs.grow (g : Grow w H w') (e : Ext w.al H H') (s : ∀ a ∈ w.al, w.rh a) : ∀ {vs : List V} {ds : List PyData}, FDs K w.rh H vs ds → FDs K w'.rh H' vs ds
  | _, _, .nil => .nil
  | _, _, .cons h t => .cons (FD.grow g e s h) (FDs.grow g e s t)
end
theorem CellAt.grow (g : Grow w H w') (e : Ext w.al H H') (s : ∀ a ∈ w.al, w.rh a) {a : Addr} (k : ∀ o, H a = some o → H' a = some o) : ∀ {c : Cell}, CellAt K w.rh H a c → CellAt K w'.rh H' a c
  | .l _, ⟨vs, h, p⟩ => ⟨vs, k _ h, FDs.grow g e s p⟩
  | .d (.k _), ⟨ws, h, p⟩ => ⟨ws, k _ h, paired_imp p fun _ _ q => ⟨q.1, FD.grow g e s q.2⟩⟩
  | .d (.t _), ⟨ws, h, p⟩ => ⟨ws, k _ h, paired_imp p fun _ _ q => ⟨q.1, FD.grow g e s q.2⟩⟩
theorem DcAt.nt {rh : Addr → Prop} {a : Addr} : ∀ {d : DC}, DcAt K rh H a d → ∃ o, H a = some o ∧ Wr o ∧ ∀ ps, o ≠ .tbl ps
  | .k _, ⟨_, h, _⟩ => ⟨_, h, trivial, fun _ z => by cases z⟩
  | .t _, ⟨_, h, _⟩ => ⟨_, h, trivial, fun _ z => by cases z⟩
theorem Wr.nt {o : HO} (h : Wr o) : ∀ ps, o ≠ .tbl ps := fun ps z => by subst z; exact h
theorem pre_get {α : Type} {xs ys : List α} (p : xs <+: ys) {i : Nat} {x : α} (h : xs[i]? = some x) : ys[i]? = some x := by
  obtain ⟨t, rfl⟩ := p
  rw [List.getElem?_append_left (List.getElem?_eq_some_iff.mp h).1]
  exact h
theorem ConV.grow (g : Grow w H w') (e : Ext w.al H H') (s : ∀ a ∈ w.al, w.rh a) : ∀ {x : AV} {v : V}, ConV K w H x v → ConV K w' H' x v
  | .d _, _, h => FD.grow g e s h
  | .r _, _, ⟨a, h, q⟩ => ⟨a, pre_get g.al h, q⟩
  | .c d, _, ⟨a, h1, h2, h3⟩ => by
    obtain ⟨o, ho, hw, nt⟩ := DcAt.nt h3
    exact ⟨a, h1, fun z => (g.nrh _ z).elim h2 fun q => q.not ho nt, CellAt.grow g e s (c := .d d) (fun o' ho' => e _ _ ho' (fun z => h2 (s _ z)) (by rw [ho] at ho'; cases ho'; exact nt)) h3⟩
  | .z _, _, ⟨a, h1, h2⟩ => by
    refine ⟨a, h1, ?_⟩
    rcases h2 with ⟨n, h | ⟨o, h⟩⟩ | h
    · exact .inl ⟨fun z => (g.nrh _ z).elim n fun q => q.not h fun _ z => (nomatch z), .inl (e _ _ h (fun z => n (s _ z)) (fun _ z => (nomatch z)))⟩
    · exact .inl ⟨fun z => (g.nrh _ z).elim n fun q => q.not h fun _ z => (nomatch z), .inr ⟨o, e _ _ h (fun z => n (s _ z)) (fun _ z => (nomatch z))⟩⟩
    · exact .inr h
  | .e _, _, h => h.trans (by rw [g.xa])
theorem ConVs.grow (g : Grow w H w') (e : Ext w.al H H') (s : ∀ a ∈ w.al, w.rh a) {xs : List AV} {vs : List V} (h : ConVs K w H xs vs) : ConVs K w' H' xs vs := paired_imp h fun _ _ q => ConV.grow g e s q
theorem ConE.grow (g : Grow w H w') (e : Ext w.al H H') (s : ∀ a ∈ w.al, w.rh a) {a : Env} {σ : L2.St} (h : ConE K w H a σ) : ConE K w' H' a σ :=
  ⟨h.len, fun i v hv => let ⟨u, h1, h2⟩ := h.at_ i v hv; ⟨u, h1, ConV.grow g e s h2⟩⟩
theorem ConE.set {a : Env} {σ : L2.St} (h : ConE K w H a σ) (i : Nat) {x : AV} {v : V} (r : ConV K w H x v) : ConE K w H (a.set i (some x)) (σ.set i (some v)) := by
  refine ⟨by rw [List.length_set, List.length_set]; exact h.len, fun j y hy => ?_⟩
  by_cases hj : i = j
  · subst hj
    have hl : i < a.length := by
      have := (List.getElem?_eq_some_iff.mp hy).1
      rwa [List.length_set] at this
    rw [List.getElem?_set_self hl] at hy
    cases hy
    exact ⟨v, List.getElem?_set_self (by rw [← h.len]; exact hl), r⟩
  · rw [List.getElem?_set_ne hj] at hy ⊢
    exact h.at_ j y hy
theorem ConE.forget {a : Env} {σ : L2.St} (h : ConE K w H a σ) (i : Nat) : ConE K w H (a.set i none) (σ.set i none) := by
  refine ⟨by rw [List.length_set, List.length_set]; exact h.len, fun j y hy => ?_⟩
  by_cases hj : i = j
  · subst hj
    have hl : i < a.length := by
      have := (List.getElem?_eq_some_iff.mp hy).1
      rwa [List.length_set] at this
    rw [List.getElem?_set_self hl] at hy
    cases hy
  · rw [List.getElem?_set_ne hj] at hy ⊢
    exact h.at_ j y hy
theorem grow_add (w : Wd) {H : Hp} {p : Addr} (n : Nul H p) : Grow w H (w.add p) :=
  ⟨List.prefix_append _ _, fun a h => .inl h, fun a h => (List.mem_append.mp h).imp id fun z => by rw [List.mem_singleton.mp z]; exact n, fun a h => h.imp id fun z => by rw [z]; exact n, rfl⟩
theorem grow_res (w : Wd) {H : Hp} {p : Addr} (n : Nul H p) : Grow w H (w.res p) :=
  ⟨List.prefix_refl _, fun a h => .inl h, fun a h => .inl h, fun a h => h.imp id fun z => by rw [z]; exact n, rfl⟩
/-- an object is laid for a place that is reserved, no cell yet -/
theorem ConS.resv (g : γ.Ok) (c : ConS γ w st H) {p : Addr} {o : HO} (hp : H p = none) (hw : Wr o) : ConS γ (w.res p) st (upd H p o) ∧ Ext w.al H (upd H p o) ∧ Grow w H (w.res p) := by
  have e : Ext w.al H (upd H p o) := Ext.upd (.inl hp)
  have gr := grow_res w (.inl hp)
  refine ⟨⟨c.len, c.nd, fun a h => .inl (c.sub a h), fun a ha => ?_, fun l a cl h1 h2 => ?_, g.new _ _ _ c.glob hp, c.xa⟩, e, gr⟩
  · by_cases hb : a = p
    · rw [hb]; exact ⟨o, upd_same, hw⟩
    · rcases ha with ha | ha
      · obtain ⟨u, hu, q⟩ := c.trk a ha
        exact ⟨u, by rw [upd_ne hb]; exact hu, q⟩
      · exact absurd ha hb
  · exact CellAt.grow gr e c.sub (fun o' ho => by rw [upd_ne (ne_of_none ho hp)]; exact ho) (c.cell l a cl h1 h2)
/-- the reserved place becomes a cell -/
theorem ConS.settle {p : Addr} {cl : Cell} (c : ConS γ (w.res p) st H) (np : ¬ p ∈ w.al) (h : CellAt γ.K (w.res p).rh H p cl) : ConS γ (w.add p) (st ++ [cl]) H := by
  refine ⟨by show (w.al ++ [p]).length = _; rw [List.length_append, List.length_append, show w.al.length = st.length from c.len]; rfl, ?_, fun a h => ?_, c.trk, fun l a cm h1 h2 => ?_, c.glob, c.xa⟩
  · show (w.al ++ [p]).Nodup
    rw [List.nodup_append]
    exact ⟨c.nd, by simp, fun x hx y hy z => np (by rw [List.mem_singleton.mp hy] at z; exact z ▸ hx)⟩
  · rcases List.mem_append.mp h with h | h
    · exact c.sub a h
    · exact .inr (List.mem_singleton.mp h)
  · have h1 : (w.al ++ [p])[l]? = some a := h1
    have hlen : w.al.length = st.length := c.len
    by_cases hl : l < st.length
    · rw [List.getElem?_append_left (by omega)] at h1
      rw [List.getElem?_append_left hl] at h2
      exact c.cell l a cm h1 h2
    · rw [List.getElem?_append_right (by omega)] at h1 h2
      rw [hlen] at h1
      cases hd : l - st.length with
      | zero =>
        rw [hd] at h1 h2
        cases h1; cases h2
        exact h
      | succ n => rw [hd] at h1; cases h1
/-- a new cell -/
theorem ConS.born (g : γ.Ok) (c : ConS γ w st H) {p : Addr} {o : HO} {cl : Cell} (hp : H p = none) (hw : Wr o) (new : ∀ {w' : Wd} {H' : Hp}, Grow w H w' → Ext w.al H H' → H' p = some o → CellAt γ.K w'.rh H' p cl) :
    ConS γ (w.add p) (st ++ [cl]) (upd H p o) ∧ Ext w.al H (upd H p o) ∧ Grow w H (w.add p) := by
  obtain ⟨c1, e1, g1⟩ := c.resv g hp hw
  exact ⟨c1.settle (fun z => c.fresh hp (c.sub _ z)) (new g1 e1 upd_same), e1, grow_add w (.inl hp)⟩
theorem ConS.bornL (g : γ.Ok) (c : ConS γ w st H) {p : Addr} {vs : List V} {xs : List PyData} (hp : H p = none) (r : FDs γ.K w.rh H vs xs) :
    ConS γ (w.add p) (st ++ [.l xs]) (upd H p (.lst vs)) ∧ Ext w.al H (upd H p (.lst vs)) ∧ Grow w H (w.add p) := c.born g hp trivial fun gr e h => ⟨vs, h, FDs.grow gr e c.sub r⟩
/-- the own cells forgotten -/
theorem ConS.cut (c0 : ConS γ w st H) (g : Grow w H w') (c : ConS γ w' st' H') : ConS γ w (st'.take st.length) H' := by
  have hl : st.length ≤ st'.length := by
    rw [← c0.len, ← c.len]
    exact g.al.length_le
  refine ⟨by rw [List.length_take, c0.len]; omega, g.al.sublist.nodup c.nd, c0.sub, fun a h => c.trk a (g.rh a h), fun l a cl h1 h2 => ?_, c.glob, c0.xa⟩
  have hlt : l < st.length := by
    have := (List.getElem?_eq_some_iff.mp h1).1
    rw [c0.len] at this
    exact this
  rw [List.getElem?_take_of_lt hlt] at h2
  exact CellAt.less g.rh (c.cell l a cl (pre_get g.al h1) h2)
def Cell.frz : Cell → AV
  | .l xs => .d (.list xs)
  | .d dc => .c dc
theorem cell_frz {rh : Addr → Prop} {a : Addr} (n : ¬ rh a) : ∀ {cl : Cell}, CellAt K rh H a cl → ∀ {w : Wd}, w.rh = rh → ConV K w H cl.frz (.ref a)
  | .l _, ⟨vs, h, p⟩, w, e => by subst e; exact FD.lst h n p
  | .d _, h, w, e => by subst e; exact ⟨a, rfl, n, h⟩
/-- a cell that is not the caller's, given away -/
theorem frz_at (c0 : ConS γ w st H) (g : Grow w H w') (c : ConS γ w' st' H') {l : Nat} {a : Addr} {cl : Cell} (hl : st.length ≤ l) (h1 : w'.al[l]? = some a) (h2 : st'[l]? = some cl) : ConV γ.K w H' cl.frz (.ref a) := by
  have na : ¬ a ∈ w.al := fun hm => by
    obtain ⟨i, hi⟩ := List.mem_iff_getElem?.mp hm
    have h3 := pre_get g.al hi
    have hlt := (List.getElem?_eq_some_iff.mp hi).1
    rw [c0.len] at hlt
    obtain ⟨p1, e1⟩ := List.getElem?_eq_some_iff.mp h1
    obtain ⟨p2, e2⟩ := List.getElem?_eq_some_iff.mp h3
    have := (List.getElem_inj c.nd).mp (e1.trans e2.symm)
    omega
  have nr : ¬ w.rh a := fun hr => by
    rcases g.nal a (List.mem_of_getElem? h1) with q | q
    · exact na q
    · obtain ⟨o, ho, hw⟩ := c0.trk a hr
      exact q.not ho hw.nt
  exact cell_frz nr (CellAt.less g.rh (c.cell l a cl h1 h2)) rfl
end

/-! ### what is new -/
def GoodN (γ : Gc) (w : Wd) (H : Hp) (E : XK) (Q : VK) : Out Cell → Prop
  | .ok c st => ∀ a H', Ext w.al H H' → Grow w H (w.add a) → ConS γ (w.add a) (st ++ [c]) H' → Q (.ref a) H'
  | .exc n x st => ∀ cls d H', Ext w.al H H' → ConS γ w st H' → ExcR γ w H' n x cls d → E cls d H'
  | .stuck => False
def RdN (γ : Gc) (E : XK) (f : Env → Store → Out Cell) (t : TE) : Prop := ∀ (w : Wd) (st : Store) (a : Env) (σ : L2.St) (H : Hp) (Q : VK), ConS γ w st H → ConE γ.K w H a σ → GoodN γ w H E Q (f a st) → t σ H Q
section
variable {γ : Gc} {w : Wd} {H H1 : Hp} {E : XK} {α β α' β' : Type} {R : Hp → α → β → Prop} {Q : β → Hp → Prop} {QN : VK}
theorem GoodN.shift {o : Out Cell} (s : ∀ a ∈ w.al, w.rh a) (h : GoodN γ w H E QN o) (e : Ext w.al H H1) : GoodN γ w H1 E QN o := by
  cases o with
  | ok v st => exact fun a H' e' g c => h a H' (e.trans e') (Grow.shift s e g) c
  | exc n x st => exact fun cls d H' e' c r => h cls d H' (e.trans e') c r
  | stuck => exact h
theorem Good.bindN {o : Out α} {k : α → Store → Out Cell} (s : ∀ a ∈ w.al, w.rh a) (h : GoodN γ w H E QN (o.bind k)) (step : ∀ v st u H1, Ext w.al H H1 → ConS γ w st H1 → R H1 v u → GoodN γ w H1 E QN (k v st) → Q u H1) : Good γ w H E R Q o := by
  cases o with
  | ok v st => exact fun u H' e c r => step v st u H' e c r (GoodN.shift s h e)
  | exc n x st => exact h
  | stuck => exact h
/-- new, then kept as it is -/
theorem RdN.frz {f : Env → Store → Out Cell} {t : TE} (h : RdN γ E f t) : RdE γ E (fun a st => (f a st).bind fun c st' => .ok c.frz st') t := by
  intro w st a σ H Q c ce q
  refine h w st a σ H Q c ce ?_
  cases e : f a st with
  | ok cl st' =>
    simp only [e, Out.bind_ok] at q
    intro p H' ex g c'
    have hl : w.al.length = st'.length := by
      have := c'.len
      simp only [Wd.add, List.length_append, List.length_singleton] at this
      omega
    have c1 : ConS γ w st' H' := by
      have z : ConS γ w ((st' ++ [cl]).take st'.length) H' := by
        refine ⟨by rw [List.length_take, hl]; simp, (List.prefix_append _ _).sublist.nodup c'.nd, c.sub, fun a h => c'.trk a (g.rh a h), fun l a cm h1 h2 => ?_, c'.glob, c.xa⟩
        have hlt : l < st'.length := by
          have := (List.getElem?_eq_some_iff.mp h1).1
          omega
        rw [List.getElem?_take_of_lt hlt] at h2
        exact CellAt.less g.rh (c'.cell l a cm (pre_get g.al h1) h2)
      rwa [List.take_left' rfl] at z
    refine q (.ref p) H' ex c1 ?_
    refine frz_at (l := w.al.length) c g c' (by rw [c.len]; exact Nat.le_refl _) ?_ ?_
    · show (w.al ++ [p])[w.al.length]? = some p
      rw [List.getElem?_append_right (Nat.le_refl _)]; simp
    · rw [hl, List.getElem?_append_right (Nat.le_refl _)]; simp
  | exc n x st' => simp only [e] at q; exact q
  | stuck => simp only [e] at q; exact q
end
end NL
end
section
set_option Elab.async false
set_option linter.all false
set_option maxRecDepth 100000
set_option maxHeartbeats 4000000
/-! Expressions as functions of an environment and a store. -/
namespace NL
open PySem PySem.Spec PyProof.Rows L2

abbrev FE := Env → Store → Out AV
abbrev FT := Env → Store → Out Bool
abbrev FA := Env → Store → Out (List AV)
abbrev FN := Env → Store → Out Cell
def stop {α : Type} : Env → Store → Out α := fun _ _ => .stuck
def eVar (i : Nat) : FE := fun a st => match a[i]? with
  | some (some v) => .ok v st
  | _ => .stuck
def eC (d : PyData) : FE := fun _ st => .ok (.d d) st
def eOp (f : Store → AV → AV → Option AV) (fa fb : FE) : FE := fun a st => (fa a st).bind fun x s1 => (fb a s1).bind fun y s2 => Out.lift (f s2 x y) s2
def fNeg : AV → Option AV
  | .d (.int i) => some (.d (.int (-i)))
  | _ => none
def eNeg (fa : FE) : FE := fun a st => (fa a st).bind fun x s => Out.lift (fNeg x) s
/-- a truth that a value is -/
def tru : AV → Option Bool
  | .d (.bool b) => some b
  | _ => none
def tOf (f : FE) : FT := fun a st => (f a st).bind fun x s => Out.lift (tru x) s
def eChain (f g : Store → AV → AV → Option AV) (fa fb fc : FE) : FE := fun a st => (fa a st).bind fun x s1 => (fb a s1).bind fun y s2 => match (f s2 x y).bind tru with
  | some true => (fc a s2).bind fun z s3 => Out.lift (g s3 y z) s3
  | some false => .ok (.d (.bool false)) s2
  | none => .stuck
def tAnd' (f g : FT) : FT := fun a st => (f a st).bind fun b s => if b = true then g a s else .ok false s
def tOr' (f g : FT) : FT := fun a st => (f a st).bind fun b s => if b = true then .ok true s else g a s
def tNot' (f : FT) : FT := fun a st => (f a st).bind fun b s => .ok (!b) s
def eAnd (f g : FE) : FE := fun a st => (f a st).bind fun x s => match tru x with
  | some true => g a s
  | some false => .ok (.d (.bool false)) s
  | none => .stuck
def eOr (f g : FE) : FE := fun a st => (f a st).bind fun x s => match tru x with
  | some true => .ok (.d (.bool true)) s
  | some false => g a s
  | none => .stuck
def eNot (f : FE) : FE := fun a st => (f a st).bind fun x s => match tru x with
  | some b => .ok (.d (.bool (!b))) s
  | none => .stuck
def eIf (c : FT) (f g : FE) : FE := fun a st => (c a st).bind fun b s => if b = true then f a s else g a s
def aNil : FA := fun _ st => .ok [] st
def aCons (f : FE) (g : FA) : FA := fun a st => (f a st).bind fun x s => (g a s).bind fun xs s2 => .ok (x :: xs) s2
def dats : List AV → Option (List PyData)
  | [] => some []
  | .d x :: r => (dats r).map (x :: ·)
  | _ => none
def eTup (g : FA) : FE := fun a st => (g a st).bind fun xs s => match dats xs with
  | some ds => if ds.length ≤ sizeLine then .ok (.d (.tuple ds)) s else .stuck
  | none => .stuck
def nLst (g : FA) : FN := fun a st => (g a st).bind fun xs s => match dats xs with
  | some ds => if ds.length ≤ sizeLine then .ok (.l ds) s else .stuck
  | none => .stuck
/-- a part of a slice -/
def FO := Env → Store → Out (Option Int)
def oNone : FO := fun _ st => .ok none st
def int1 : AV → Option Int
  | .d (.int i) => some i
  | _ => none
def oSome (f : FE) : FO := fun a st => (f a st).bind fun x s => Out.lift ((int1 x).map some) s
def eSl (f : FE) (l h : FO) : FE := fun a st => (f a st).bind fun x s1 => (l a s1).bind fun lo s2 => (h a s2).bind fun hi s3 => Out.lift (fSl s3 x lo hi) s3
def eCB (g : Store → List AV → Option AV) (f : FA) : FE := fun a st => (f a st).bind fun xs s => Out.lift (g s xs) s
def tyS (st : Store) : AV → Option String
  | .d .none => some "NoneType"
  | .d (.bool _) => some "bool"
  | .d (.int _) => some "int"
  | .d (.str _) => some "str"
  | .d (.list _) => some "list"
  | .d (.tuple _) => some "tuple"
  | .r l => match st[l]? with
    | some (.l _) => some "list"
    | some (.d _) => some "dict"
    | none => none
  | .c _ => some "dict"
  | _ => none
def isiB (a b : String) : Bool := a == b || (a == "bool" && b == "int")
def eIsi (T : String) (f : FE) : FE := fun a st => (f a st).bind fun x s => match tyS s x with
  | some t => .ok (.d (.bool (isiB t T))) s
  | none => .stuck
/-- a def: of its arguments, of the store -/
abbrev DF := List AV → Store → Out AV
abbrev DN := List AV → Store → Out Cell
def eCall (F : DF) (f : FA) : FE := fun a st => (f a st).bind fun xs s => F xs s
def nCall (F : DN) (f : FA) : FN := fun a st => (f a st).bind fun xs s => F xs s
def eM (T : String) (m : Store → AV → List AV → Option (AV × Store)) (fo : FE) (f : FA) : FE := fun a st => (fo a st).bind fun x s1 => if tyS s1 x = some T then (f a s1).bind fun xs s2 => match m s2 x xs with
    | some (z, s3) => .ok z s3
    | none => .stuck
  else .stuck

section
variable {γ : Gc} {E : XK} {fa fb fc : FE} {ta tb tc : TE} {gt gu : FT} {tt tu : TT} {ga : FA} {tga : TA}
theorem rd_stop {t : TE} : RdE γ E stop t := fun _ _ _ _ _ _ _ _ h => h.elim
theorem rd_var {i : Nat} : RdE γ E (eVar i) (tVar i) := by
  intro w st a σ H Q c ce h
  unfold eVar at h
  split at h
  · rename_i v e
    obtain ⟨u, hu, r⟩ := ce.at_ _ _ e
    exact ⟨u, hu, h u H (Ext.refl _ _) c r⟩
  · exact h.elim
theorem rd_c {d : PyData} {v : V} (hv : ∀ rh H, FD γ.K rh H v d) : RdE γ E (eC d) (tC v) := fun w st a σ H Q c ce h => h v H (Ext.refl _ _) c (hv _ _)
theorem lift_ok {α : Type} {o : Option α} {st : Store} {w : Wd} {H : Hp} {β : Type} {R : Hp → α → β → Prop} {Q : β → Hp → Prop} (h : Good γ w H E R Q (Out.lift o st)) : ∃ z, o = some z ∧ Good γ w H E R Q (.ok z st) := by
  cases o with
  | none => exact h.elim
  | some z => exact ⟨z, rfl, h⟩
theorem rd_op {f : Store → AV → AV → Option AV} {r : R2} (ho : OpOk γ f r) (ha : RdE γ E fa ta) (hb : RdE γ E fb tb) : RdE γ E (eOp f fa fb) (tOp r ta tb) := by
  intro w st a σ H Q c ce h
  refine ha w st a σ H _ c ce (Good.bind h fun x s1 u H1 e1 c1 r1 h1 => ?_)
  refine hb w s1 a σ H1 _ c1 (ce.ext e1 c.sub) (Good.bind h1 fun y s2 v H2 e2 c2 r2 h2 => ?_)
  obtain ⟨z, ez, h3⟩ := lift_ok h2
  exact ho w s2 H2 x y z u v Q c2 (ConV.ext e2 c1.sub r1) r2 ez fun q H' e c' r => h3 q H' e c' r
theorem rd_neg (ha : RdE γ E fa ta) : RdE γ E (eNeg fa) (tUn (rU fun i => .int (-i)) ta) := by
  intro w st a σ H Q c ce h
  refine ha w st a σ H _ c ce (Good.bind h fun x s1 u H1 e1 c1 r1 h1 => ?_)
  obtain ⟨z, ez, h3⟩ := lift_ok h1
  unfold fNeg at ez
  split at ez
  · cases ez; cases r1
    exact ⟨_, rfl, h3 _ H1 (Ext.refl _ _) c1 (FD.int _)⟩
  · cases ez
theorem tru_at {K : PySem.W.Frag} {w : Wd} {H : Hp} {x : AV} {u : V} {b : Bool} (r : ConV K w H x u) (h : tru x = some b) : u = .bl b := by
  unfold tru at h
  split at h
  · cases h; cases r; rfl
  · cases h
theorem rd_test (ha : RdE γ E fa ta) : RdT γ E (tOf fa) (tTest ta) := by
  intro w st a σ H Q c ce h
  refine ha w st a σ H _ c ce (Good.bind h fun x s1 u H1 e1 c1 r1 h1 => ?_)
  obtain ⟨z, ez, h3⟩ := lift_ok h1
  exact ⟨z, tru_at r1 ez, h3 z H1 (Ext.refl _ _) c1 rfl⟩
theorem rd_chain {f g : Store → AV → AV → Option AV} {r r' : R2} (ho : OpOk γ f r) (ho' : OpOk γ g r') (ha : RdE γ E fa ta) (hb : RdE γ E fb tb) (hc : RdE γ E fc tc) : RdE γ E (eChain f g fa fb fc) (tChain r r' ta tb tc) := by
  intro w st a σ H Q c ce h
  refine ha w st a σ H _ c ce (Good.bind h fun x s1 u H1 e1 c1 r1 h1 => ?_)
  refine hb w s1 a σ H1 _ c1 (ce.ext e1 c.sub) (Good.bind h1 fun y s2 v H2 e2 c2 r2 h2 => ?_)
  have s1s := c1.sub
  cases ez : f s2 x y with
  | none => rw [ez] at h2; exact h2.elim
  | some z =>
    rw [ez] at h2
    refine ho w s2 H2 x y z u v _ c2 (ConV.ext e2 c1.sub r1) r2 ez fun q H' e c' rq => ?_
    simp only [Option.bind_some] at h2
    cases et : tru z with
    | none => rw [et] at h2; exact h2.elim
    | some b =>
      rw [et] at h2
      refine ⟨b, tru_at rq et, ?_⟩
      cases b with
      | false =>
        simp only [Bool.false_eq_true, if_false]
        exact h2 _ H' e c' (FD.bl _)
      | true =>
        simp only [if_true]
        have ce' := ((ce.ext e1 c.sub).ext e2 c1.sub).ext e c2.sub
        refine hc w s2 a σ H' _ c' ce' (Good.bind (Good.shift h2 e) fun z3 s3 w3 H3 e3 c3 r3 h3 => ?_)
        obtain ⟨y3, ey, h4⟩ := lift_ok h3
        exact ho' w s3 H3 y z3 y3 v w3 Q c3 (ConV.ext (e.trans e3) c2.sub r2) r3 ey fun q H' e c' r => h4 q H' e c' r
theorem rd_tAnd (hf : RdT γ E gt tt) (hg : RdT γ E gu tu) : RdT γ E (tAnd' gt gu) (tAnd tt tu) := by
  intro w st a σ H Q c ce h
  refine hf w st a σ H _ c ce (Good.bind h fun b s1 u H1 e1 c1 r1 h1 => ?_)
  cases (r1 : b = u)
  cases b with
  | true => exact hg w s1 a σ H1 _ c1 (ce.ext e1 c.sub) h1
  | false => exact h1 false H1 (Ext.refl _ _) c1 rfl
theorem rd_tOr (hf : RdT γ E gt tt) (hg : RdT γ E gu tu) : RdT γ E (tOr' gt gu) (tOr tt tu) := by
  intro w st a σ H Q c ce h
  refine hf w st a σ H _ c ce (Good.bind h fun b s1 u H1 e1 c1 r1 h1 => ?_)
  cases (r1 : b = u)
  cases b with
  | false => exact hg w s1 a σ H1 _ c1 (ce.ext e1 c.sub) h1
  | true => exact h1 true H1 (Ext.refl _ _) c1 rfl
theorem rd_tNot (hf : RdT γ E gt tt) : RdT γ E (tNot' gt) (tNot tt) := by
  intro w st a σ H Q c ce h
  refine hf w st a σ H _ c ce (Good.bind h fun b s1 u H1 e1 c1 r1 h1 => ?_)
  cases (r1 : b = u)
  exact h1 _ H1 (Ext.refl _ _) c1 rfl
theorem rd_and (ha : RdE γ E fa ta) (hb : RdE γ E fb tb) : RdE γ E (eAnd fa fb) (tAndV ta tb) := by
  intro w st a σ H Q c ce h
  refine ha w st a σ H _ c ce (Good.bind h fun x s1 u H1 e1 c1 r1 h1 => ?_)
  cases et : tru x with
  | none => rw [et] at h1; exact h1.elim
  | some b =>
    rw [et] at h1
    refine ⟨b, tru_at r1 et, ?_⟩
    cases b with
    | true => exact hb w s1 a σ H1 _ c1 (ce.ext e1 c.sub) h1
    | false => exact h1 _ H1 (Ext.refl _ _) c1 (FD.bl _)
theorem rd_or (ha : RdE γ E fa ta) (hb : RdE γ E fb tb) : RdE γ E (eOr fa fb) (tOrV ta tb) := by
  intro w st a σ H Q c ce h
  refine ha w st a σ H _ c ce (Good.bind h fun x s1 u H1 e1 c1 r1 h1 => ?_)
  cases et : tru x with
  | none => rw [et] at h1; exact h1.elim
  | some b =>
    rw [et] at h1
    refine ⟨b, tru_at r1 et, ?_⟩
    cases b with
    | false => exact hb w s1 a σ H1 _ c1 (ce.ext e1 c.sub) h1
    | true => exact h1 _ H1 (Ext.refl _ _) c1 (FD.bl _)
theorem rd_not (ha : RdE γ E fa ta) : RdE γ E (eNot fa) (tNotV ta) := by
  intro w st a σ H Q c ce h
  refine ha w st a σ H _ c ce (Good.bind h fun x s1 u H1 e1 c1 r1 h1 => ?_)
  cases et : tru x with
  | none => rw [et] at h1; exact h1.elim
  | some b =>
    rw [et] at h1
    exact ⟨b, tru_at r1 et, h1 _ H1 (Ext.refl _ _) c1 (FD.bl _)⟩
theorem rd_if (hc : RdT γ E gt tt) (ha : RdE γ E fa ta) (hb : RdE γ E fb tb) : RdE γ E (eIf gt fa fb) (tIf tt ta tb) := by
  intro w st a σ H Q c ce h
  refine hc w st a σ H _ c ce (Good.bind h fun b s1 u H1 e1 c1 r1 h1 => ?_)
  cases (r1 : b = u)
  cases b with
  | true => exact ha w s1 a σ H1 _ c1 (ce.ext e1 c.sub) h1
  | false => exact hb w s1 a σ H1 _ c1 (ce.ext e1 c.sub) h1
theorem ra_nil : RdA γ E aNil tNil := fun w st a σ H Q c ce h => h [] H (Ext.refl _ _) c .nil
theorem ra_cons (ha : RdE γ E fa ta) (hg : RdA γ E ga tga) : RdA γ E (aCons fa ga) (tCons ta tga) := by
  intro w st a σ H Q c ce h
  refine ha w st a σ H _ c ce (Good.bind h fun x s1 u H1 e1 c1 r1 h1 => ?_)
  refine hg w s1 a σ H1 _ c1 (ce.ext e1 c.sub) (Good.bind h1 fun xs s2 us H2 e2 c2 r2 h2 => ?_)
  exact h2 _ H2 (Ext.refl _ _) c2 (.cons (ConV.ext e2 c1.sub r1) r2)
theorem dats_at {K : PySem.W.Frag} {w : Wd} {H : Hp} : ∀ {xs : List AV} {us : List V} {ds : List PyData}, ConVs K w H xs us → dats xs = some ds → FDs K w.rh H us ds
  | [], _, _, .nil, h => by cases h; exact .nil
  | .d x :: r, _, _, .cons q t, h => by
    obtain ⟨es, h1, rfl⟩ := Option.map_eq_some_iff.mp (show (dats r).map (x :: ·) = some _ from h)
    exact .cons q (dats_at t h1)
  | .r _ :: _, _, _, .cons _ _, h => by cases h
  | .c _ :: _, _, _, .cons _ _, h => by cases h
  | .z _ :: _, _, _, .cons _ _, h => by cases h
  | .e _ :: _, _, _, .cons _ _, h => by cases h
theorem rd_tup (g : γ.Ok) (hg : RdA γ E ga tga) : RdE γ E (eTup ga) (tTup tga) := by
  intro w st a σ H Q c ce h
  refine hg w st a σ H _ c ce (Good.bind h fun xs s1 us H1 e1 c1 r1 h1 => ?_)
  cases ed : dats xs with
  | none => rw [ed] at h1; exact h1.elim
  | some ds =>
    rw [ed] at h1
    have r2 := dats_at r1 ed
    simp only at h1
    split at h1
    · rename_i hl
      refine ⟨by rw [r2.length]; exact hl, fun p hp => ?_⟩
      obtain ⟨e3, c3, r3⟩ := new_tup g c1 r2 hp
      exact h1 _ _ e3 c3 r3
    · exact h1.elim
theorem rn_lst (g : γ.Ok) (hg : RdA γ E ga tga) : RdN γ E (nLst ga) (tLst tga) := by
  intro w st a σ H Q c ce h
  refine hg w st a σ H _ c ce (Good.bindN c.sub h fun xs s1 us H1 e1 c1 r1 h1 => ?_)
  cases ed : dats xs with
  | none => rw [ed] at h1; exact h1.elim
  | some ds =>
    rw [ed] at h1
    have r2 := dats_at r1 ed
    simp only at h1
    split at h1
    · rename_i hl
      refine ⟨by rw [r2.length]; exact hl, fun p hp => ?_⟩
      obtain ⟨c3, e3, g3⟩ := c1.bornL g hp r2
      exact h1 p _ e3 g3 c3
    · exact h1.elim
def RdO (γ : Gc) (E : XK) (f : FO) (t : TO) : Prop := ∀ (w : Wd) (st : Store) (a : Env) (σ : L2.St) (H : Hp) (Q : Option Int → Hp → Prop), ConS γ w st H → ConE γ.K w H a σ → Good γ w H E (fun _ x y => x = y) Q (f a st) → t σ H Q
theorem ro_none : RdO γ E oNone tNoPart := fun w st a σ H Q c ce h => h none H (Ext.refl _ _) c rfl
theorem ro_some (ha : RdE γ E fa ta) : RdO γ E (oSome fa) (tPart ta) := by
  intro w st a σ H Q c ce h
  refine ha w st a σ H _ c ce (Good.bind h fun x s1 u H1 e1 c1 r1 h1 => ?_)
  obtain ⟨z, ez, h3⟩ := lift_ok h1
  obtain ⟨i, ei, rfl⟩ := Option.map_eq_some_iff.mp ez
  unfold int1 at ei
  split at ei
  · cases ei; cases r1
    exact ⟨_, rfl, h3 _ H1 (Ext.refl _ _) c1 rfl⟩
  · cases ei
theorem rd_sl (g : γ.Ok) {l h : FO} {tl th : TO} (ha : RdE γ E fa ta) (hl : RdO γ E l tl) (hh : RdO γ E h th) : RdE γ E (eSl fa l h) (tSl (rSlX γ.K) ta tl th) := by
  intro w st a σ H Q c ce h
  refine ha w st a σ H _ c ce (Good.bind h fun x s1 u H1 e1 c1 r1 h1 => ?_)
  refine hl w s1 a σ H1 _ c1 (ce.ext e1 c.sub) (Good.bind h1 fun lo s2 lo' H2 e2 c2 r2 h2 => ?_)
  refine hh w s2 a σ H2 _ c2 ((ce.ext e1 c.sub).ext e2 c1.sub) (Good.bind h2 fun hi s3 hi' H3 e3 c3 r3 h3 => ?_)
  cases (r2 : lo = lo')
  cases (r3 : hi = hi')
  obtain ⟨z, ez, h4⟩ := lift_ok h3
  exact fSl_ok g c3 (ConV.ext (e2.trans e3) c1.sub r1) ez fun q H' e c' r => h4 q H' e c' r
theorem rd_cb {g : Store → List AV → Option AV} {r : List V → Hp → VK → Prop} (hg : CallOk γ g r) (ha : RdA γ E ga tga) : RdE γ E (eCB g ga) (tCB r tga) := by
  intro w st a σ H Q c ce h
  refine ha w st a σ H _ c ce (Good.bind h fun xs s1 us H1 e1 c1 r1 h1 => ?_)
  obtain ⟨z, ez, h4⟩ := lift_ok h1
  exact hg w s1 H1 xs us z Q c1 r1 ez fun q H' e c' r => h4 q H' e c' r
/-! ### isinstance -/
theorem ty_at {w : Wd} {st : Store} {H : Hp} {x : AV} {u : V} {t : String} (c : ConS γ w st H) (r : ConV γ.K w H x u) (h : tyS st x = some t) : TyOf γ.K H u (.type t) := by
  unfold tyS at h
  split at h
  · cases h; cases r; exact .non
  · cases h; cases r; exact .bl _
  · cases h; cases r; exact .int _
  · cases h; cases r; exact .str _
  · cases h; cases r with | lst h1 _ _ => exact .lst h1
  · cases h; cases r with | tup h1 _ _ => exact .tup h1
  · rename_i l
    obtain ⟨a, h1, rfl⟩ := r
    split at h
    · rename_i xs e
      cases h
      obtain ⟨vs, h2, _⟩ := c.cell _ _ _ h1 e
      exact .lst h2
    · rename_i d e
      cases h
      have q := c.cell _ _ _ h1 e
      cases d with
      | k _ => obtain ⟨ws, h2, _⟩ := q; exact .dK h2
      | t _ => obtain ⟨ws, h2, _⟩ := q; exact .dT h2
    · cases h
  · rename_i d
    cases h
    obtain ⟨a, rfl, _, q⟩ := r
    cases d with
    | k _ => obtain ⟨ws, h2, _⟩ := q; exact .dK h2
    | t _ => obtain ⟨ws, h2, _⟩ := q; exact .dT h2
  · cases h
theorem tyS_mem {st : Store} {x : AV} {t : String} (h : tyS st x = some t) : t ∈ ["NoneType", "bool", "int", "str", "list", "tuple", "dict"] := by
  unfold tyS at h
  repeat' split at h
  all_goals (cases h <;> simp)
theorem kitB_ok : ∀ a ∈ ["NoneType", "bool", "int", "str", "list", "tuple", "dict"], ∀ b ∈ ["bool", "int", "str", "list", "tuple", "dict"], kitB a b = some (isiB a b) := by decide +kernel
theorem rd_isi {T : String} (hT : T ∈ ["bool", "int", "str", "list", "tuple", "dict"]) (ha : RdE γ E fa ta) : RdE γ E (eIsi T fa) (tCB (rIsi γ.K) (tCons ta (tCons (tC (.ty T)) tNil))) := by
  intro w st a σ H Q c ce h
  refine ha w st a σ H _ c ce (Good.bind h fun x s1 u H1 e1 c1 r1 h1 => ?_)
  cases et : tyS s1 x with
  | none => rw [et] at h1; exact h1.elim
  | some t =>
    rw [et] at h1
    exact ⟨u, .ty T, .type t, .type T, _, rfl, .ty T, .base (ty_at c1 r1 et), kit_ty (kitB_ok t (tyS_mem et) T hT), h1 _ H1 (Ext.refl _ _) c1 (FD.bl _)⟩
/-! ### calls of defs -/
/-- what a def's promise is, by what it computes -/
def spF (γ : Gc) (n : Nat) (F : DF) : Sp := fun vs H Q E => ∃ (w : Wd) (st : Store) (xs : List AV), xs.length = n ∧ ConS γ w st H ∧ ConVs γ.K w H xs vs ∧ Good γ w H E (RV γ w) Q (F xs st)
def spN (γ : Gc) (n : Nat) (F : DN) : Sp := fun vs H Q E => ∃ (w : Wd) (st : Store) (xs : List AV), xs.length = n ∧ ConS γ w st H ∧ ConVs γ.K w H xs vs ∧ GoodN γ w H E Q (F xs st)
/-- of so many arguments -/
def ofN {α : Type} (n : Nat) (F : List AV → Store → Out α) : List AV → Store → Out α := fun xs st => if xs.length = n then F xs st else .stuck
theorem rd_call {n : Nat} {F : DF} (ha : RdA γ E ga tga) : RdE γ E (eCall (ofN n F) ga) (tCall (spF γ n F) [] E tga) := by
  intro w st a σ H Q c ce h
  refine ha w st a σ H _ c ce (Good.bind h fun xs s1 us H1 e1 c1 r1 h1 => ?_)
  rw [List.append_nil]
  unfold ofN at h1
  split at h1
  · rename_i hl
    exact ⟨w, s1, xs, hl, c1, r1, h1⟩
  · exact h1.elim
theorem rn_call {n : Nat} {F : DN} (ha : RdA γ E ga tga) : RdN γ E (nCall (ofN n F) ga) (tCall (spN γ n F) [] E tga) := by
  intro w st a σ H Q c ce h
  refine ha w st a σ H _ c ce (Good.bindN c.sub h fun xs s1 us H1 e1 c1 r1 h1 => ?_)
  rw [List.append_nil]
  unfold ofN at h1
  split at h1
  · rename_i hl
    exact ⟨w, s1, xs, hl, c1, r1, h1⟩
  · exact h1.elim
/-! ### methods of built-in types -/
theorem tyV_at {w : Wd} {st : Store} {H : Hp} {x : AV} {u : V} {T : String} (c : ConS γ w st H) (r : ConV γ.K w H x u) (hT : T = "list" ∨ T = "dict") (h : tyS st x = some T) : tyV γ.K T u H := by
  have q := ty_at c r h
  rcases hT with rfl | rfl
  · generalize hv : Value.type "list" = tv at q
    cases q with
    | lst e => exact .inl ⟨rfl, _, SqL.of e⟩
    | frz e => exact .inl ⟨rfl, _, .inl (.inr ⟨_, e⟩)⟩
    | _ => simp at hv
  · generalize hv : Value.type "dict" = tv at q
    cases q with
    | dK e => exact .inr (.inr (.inl ⟨rfl, .inl ⟨_, e⟩⟩))
    | dT e => exact .inr (.inr (.inl ⟨rfl, .inr ⟨_, e⟩⟩))
    | _ => simp at hv
theorem rd_m {T : String} {m : Store → AV → List AV → Option (AV × Store)} {r : V → List V → Hp → VK → Prop} (hT : T = "list" ∨ T = "dict") (hm : MetOk γ m r) (ho : RdE γ E fa ta) (ha : RdA γ E ga tga) : RdE γ E (eM T m fa ga) (tBM γ.K T r ta tga) := by
  intro w st a σ H Q c ce h
  refine ho w st a σ H _ c ce (Good.bind h fun x s1 u H1 e1 c1 r1 h1 => ?_)
  split at h1
  · rename_i ht
    refine ⟨tyV_at c1 r1 hT ht, ha w s1 a σ H1 _ c1 (ce.ext e1 c.sub) (Good.bind h1 fun xs s2 us H2 e2 c2 r2 h2 => ?_)⟩
    cases em : m s2 x xs with
    | none => rw [em] at h2; exact h2.elim
    | some zs =>
      obtain ⟨z, s3⟩ := zs
      rw [em] at h2
      exact hm w s2 s3 H2 x u xs us z Q c2 (ConV.ext e2 c1.sub r1) r2 em fun q H' e c' r => h2 q H' e c' r
  · exact h1.elim
end
end NL
end
section
set_option Elab.async false
set_option linter.all false
set_option maxRecDepth 100000
set_option maxHeartbeats 4000000
/-! What is walked; targets; comprehensions. -/
namespace NL
open PySem PySem.Spec PyProof.Rows L2

/-! ### what is walked -/
inductive Src where
  | xs (l : List AV)
  | cell (l n : Nat)
def Src.len : Src → Nat
  | .xs l => l.length
  | .cell _ n => n
def Src.at (st : Store) : Src → Nat → Option AV
  | .xs l, i => l[i]?
  | .cell l n, i => match st[l]? with
    | some (.l ys) => if ys.length = n then (ys[i]?).map .d else none
    | _ => none
def Src.ended (st : Store) : Src → Bool
  | .xs _ => true
  | .cell l n => match st[l]? with
    | some (.l ys) => decide (ys.length = n)
    | _ => false
def SrcOk (γ : Gc) (w : Wd) (s : Src) (J : It) (H : Hp) : Prop := ∀ (w' : Wd) (st : Store) (H' : Hp), Grow w H w' → Ext w.al H H' → ConS γ w' st H' →
  (∀ i x, i < s.len → s.at st i = some x → J.go i H' ∧ ∀ v H2, J.yld i H' v H2 → Ext w'.al H' H2 ∧ ConS γ w' st H2 ∧ ConV γ.K w' H2 x v) ∧ (s.ended st = true → J.stop s.len H')
abbrev FSrc := Env → Store → Out Src
def RdI (γ : Gc) (E : XK) (f : FSrc) (wi : TI) : Prop := ∀ (w : Wd) (st : Store) (a : Env) (σ : L2.St) (H : Hp) (R : It → Hp → Prop), ConS γ w st H → ConE γ.K w H a σ → Good γ w H E (fun H1 s J => SrcOk γ w s J H1) R (f a st) → wi σ H R
def srcOf (st : Store) : AV → Option Src
  | .d (.list xs) => some (.xs (xs.map .d))
  | .d (.tuple xs) => some (.xs (xs.map .d))
  | .r l => match st[l]? with
    | some (.l ys) => some (.cell l ys.length)
    | _ => none
  | .z ns => some (.xs (ns.map fun n => .d (.int n)))
  | _ => none
def sAny (f : FE) : FSrc := fun a st => (f a st).bind fun x s => Out.lift (srcOf s x) s
def iAny (K : PySem.W.Frag) (t : TE) : TI := fun σ H R => iList K t σ H R ∨ iTup K t σ H R
section
variable {γ : Gc} {E : XK} {fa : FE} {ta : TE} {ga : FA} {tga : TA} {w : Wd} {H : Hp} {st : Store}
theorem itl_of {xs : List V} {a : Addr} {l : List AV} (keep : ∀ w' H', Grow w H w' → Ext w.al H H' → SqL γ.K H' a xs ∧ ∀ (i : Nat) (x : AV), l[i]? = some x → ∃ v, xs[i]? = some v ∧ ConV γ.K w' H' x v) (hl : xs.length = l.length) : SrcOk γ w (.xs l) (Itl γ.K a) H := by
  intro w' st H' g e c
  obtain ⟨k1, k2⟩ := keep w' H' g e
  refine ⟨fun i x hi hx => ?_, fun _ => ⟨xs, k1, Nat.le_of_eq hl⟩⟩
  obtain ⟨v, h1, h2⟩ := k2 i x hx
  refine ⟨⟨xs, v, k1, h1⟩, fun u H2 ⟨eh, hu⟩ => ?_⟩
  subst eh
  have := hu xs k1
  rw [h1] at this
  cases this
  exact ⟨Ext.refl _ _, c, h2⟩
theorem itt_of {xs : List V} {a : Addr} {l : List AV} (keep : ∀ w' H', Grow w H w' → Ext w.al H H' → SqT γ.K H' a xs ∧ ∀ (i : Nat) (x : AV), l[i]? = some x → ∃ v, xs[i]? = some v ∧ ConV γ.K w' H' x v) (hl : xs.length = l.length) : SrcOk γ w (.xs l) (Itt γ.K a) H := by
  intro w' st H' g e c
  obtain ⟨k1, k2⟩ := keep w' H' g e
  refine ⟨fun i x hi hx => ?_, fun _ => ⟨xs, k1, Nat.le_of_eq hl⟩⟩
  obtain ⟨v, h1, h2⟩ := k2 i x hx
  refine ⟨⟨xs, v, k1, h1⟩, fun u H2 ⟨eh, hu⟩ => ?_⟩
  subst eh
  have := hu xs k1
  rw [h1] at this
  cases this
  exact ⟨Ext.refl _ _, c, h2⟩
theorem fds_mapd {K : PySem.W.Frag} {rh : Addr → Prop} {H : Hp} {vs : List V} {ds : List PyData} (h : FDs K rh H vs ds) {i : Nat} {x : AV} (e : (ds.map AV.d)[i]? = some x) : ∃ v d, vs[i]? = some v ∧ x = .d d ∧ FD K rh H v d := by
  rw [List.getElem?_map] at e
  obtain ⟨d, hd, rfl⟩ := Option.map_eq_some_iff.mp e
  obtain ⟨v, h1, h2⟩ := h.get hd
  exact ⟨v, d, h1, rfl, h2⟩
theorem ext_at {w : Wd} {H H' : Hp} (e : Ext w.al H H') (s : ∀ a ∈ w.al, w.rh a) {a : Addr} {o : HO} (n : ¬ w.rh a) (h : H a = some o) (t : ∀ ps, o ≠ .tbl ps) : H' a = some o := e a o h (fun z => n (s a z)) t
theorem cell_src {l n : Nat} {b : Addr} (hb : w.al[l]? = some b) : SrcOk γ w (.cell l n) (Itl γ.K b) H := by
  intro w' st' H' g e c'
  have hb' := pre_get g.al hb
  refine ⟨fun i x hi hx => ?_, fun hen => ?_⟩
  · simp only [Src.at] at hx
    split at hx
    · rename_i ys el
      split at hx
      · rename_i hn
        obtain ⟨d, hd, rfl⟩ := Option.map_eq_some_iff.mp hx
        obtain ⟨vs, h1, f1⟩ := c'.cell _ _ _ hb' el
        obtain ⟨v, k1, k2⟩ := f1.get hd
        refine ⟨⟨vs, v, SqL.of h1, k1⟩, fun u H2 ⟨eh, hu⟩ => ?_⟩
        subst eh
        have := hu vs (SqL.of h1)
        rw [k1] at this
        cases this
        exact ⟨Ext.refl _ _, c', k2⟩
      · cases hx
    · cases hx
  · simp only [Src.ended] at hen
    split at hen
    · rename_i ys el
      obtain ⟨vs, h1, f1⟩ := c'.cell _ _ _ hb' el
      exact ⟨vs, SqL.of h1, by rw [f1.length, of_decide_eq_true hen]; exact Nat.le_refl _⟩
    · cases hen
theorem z_src {ns : List Int} {b : Addr} (s : ∀ a ∈ w.al, w.rh a) (hz : ZAt γ.K w.rh H b (ns.map V.int)) : SrcOk γ w (.xs (ns.map fun n => .d (.int n))) (Itl γ.K b) H := by
  refine itl_of (xs := ns.map V.int) (fun w' H' g e => ⟨?_, fun i x hx => ?_⟩) (by simp)
  · rcases hz with ⟨n, h | ⟨o, h⟩⟩ | h
    · exact SqL.of (ext_at e s n h fun _ z => (nomatch z))
    · exact .inl (.inr ⟨o, ext_at e s n h fun _ z => (nomatch z)⟩)
    · exact h _
  · rw [List.getElem?_map] at hx
    obtain ⟨n, hn, rfl⟩ := Option.map_eq_some_iff.mp hx
    exact ⟨.int n, by rw [List.getElem?_map, hn]; rfl, FD.int _⟩
theorem ri_any (ha : RdE γ E fa ta) : RdI γ E (sAny fa) (iAny γ.K ta) := by
  intro w st a σ H R c ce h
  unfold sAny at h
  cases eo : fa a st with
  | stuck => rw [eo] at h; exact h.elim
  | exc n x s1 =>
    rw [eo] at h
    refine .inl (ha w st a σ H _ c ce ?_)
    rw [eo]
    exact h
  | ok x s1 =>
    rw [eo] at h
    simp only [Out.bind_ok] at h
    obtain ⟨z, ez, h⟩ := lift_ok h
    have hsub := c.sub
    by_cases ht : ∃ xs, x = .d (.tuple xs)
    · obtain ⟨xs, rfl⟩ := ht
      refine .inr (ha w st a σ H _ c ce ?_)
      rw [eo]
      intro u H1 e1 c1 r1
      cases ez
      cases r1 with
      | tup h1 n1 f1 =>
      rename_i b vs
      refine ⟨b, rfl, ⟨vs, SqT.of h1⟩, h _ H1 e1 c1 (itt_of (xs := vs) (fun w' H' g e => ⟨SqT.of (ext_at e hsub n1 h1 fun _ z => (nomatch z)), fun i x hx => ?_⟩) (by rw [List.length_map, f1.length]))⟩
      obtain ⟨v, d, k1, rfl, k2⟩ := fds_mapd f1 hx
      exact ⟨v, k1, FD.grow g e hsub k2⟩
    · refine .inl (ha w st a σ H _ c ce ?_)
      rw [eo]
      intro u H1 e1 c1 r1
      unfold srcOf at ez
      split at ez
      · cases ez
        cases r1 with
        | lst h1 n1 f1 =>
        rename_i b vs
        refine ⟨b, rfl, ⟨vs, SqL.of h1⟩, h _ H1 e1 c1 (itl_of (xs := vs) (fun w' H' g e => ⟨SqL.of (ext_at e hsub n1 h1 fun _ z => (nomatch z)), fun i x hx => ?_⟩) (by rw [List.length_map, f1.length]))⟩
        obtain ⟨v, d, k1, rfl, k2⟩ := fds_mapd f1 hx
        exact ⟨v, k1, FD.grow g e hsub k2⟩
      · exact absurd ⟨_, rfl⟩ ht
      · rename_i l
        split at ez
        · rename_i ys el
          cases ez
          obtain ⟨b, hb, rfl⟩ := r1
          obtain ⟨vs, h1, f1⟩ := c1.cell _ _ _ hb el
          exact ⟨b, rfl, ⟨vs, SqL.of h1⟩, h _ H1 e1 c1 (cell_src hb)⟩
        · cases ez
      · rename_i ns
        cases ez
        obtain ⟨b, rfl, hz⟩ := r1
        exact ⟨b, rfl, ⟨_, hz.sq⟩, h _ H1 e1 c1 (z_src hsub hz)⟩
      · cases ez
/-! ### ranges -/
def rgA (lo c : Int) (n : Nat) : List AV := (List.range n).map fun (i : Nat) => AV.d (.int (lo + (i : Int) * c))
def sRg1 (g : FA) : FSrc := fun a st => (g a st).bind fun xs s => match xs with
  | [.d (.int j)] => if small62 j = true then .ok (.xs (rgA 0 1 j.toNat)) s else .stuck
  | _ => .stuck
def sRg2 (g : FA) : FSrc := fun a st => (g a st).bind fun xs s => match xs with
  | [.d (.int i), .d (.int j)] => if (small62 i && small62 j) = true then .ok (.xs (rgA i 1 (j - i).toNat)) s else .stuck
  | _ => .stuck
/-- down by one -/
def sRg3 (g : FA) : FSrc := fun a st => (g a st).bind fun xs s => match xs with
  | [.d (.int i), .d (.int j), .d (.int k)] => if (small62 i && small62 j && decide (k = -1)) = true then .ok (.xs (rgA i (-1) (i - j).toNat)) s else .stuck
  | _ => .stuck
theorem itc_src {lo c : Int} {n : Nat} : SrcOk γ w (.xs (rgA lo c n)) (Itc lo c n) H := by
  intro w' st' H' g e c'
  have hl : (rgA lo c n).length = n := by unfold rgA; simp
  refine ⟨fun i x hi hx => ?_, fun _ => Nat.le_of_eq hl.symm⟩
  have hi : i < n := by
    have : i < (rgA lo c n).length := hi
    omega
  refine ⟨hi, fun v H2 ⟨eh, ev⟩ => ?_⟩
  subst eh ev
  have hx : (rgA lo c n)[i]? = some x := hx
  unfold rgA at hx
  rw [List.getElem?_map, List.getElem?_range hi] at hx
  cases hx
  exact ⟨Ext.refl _ _, c', FD.int _⟩
theorem itr_src {lo : Int} {n : Nat} : SrcOk γ w (.xs (rgA lo 1 n)) (Itr lo n) H := by
  intro w' st' H' g e c'
  have hl : (rgA lo 1 n).length = n := by unfold rgA; simp
  refine ⟨fun i x hi hx => ?_, fun _ => Nat.le_of_eq hl.symm⟩
  have hi : i < n := by
    have : i < (rgA lo 1 n).length := hi
    omega
  refine ⟨hi, fun v H2 ⟨eh, ev⟩ => ?_⟩
  subst eh ev
  have hx : (rgA lo 1 n)[i]? = some x := hx
  unfold rgA at hx
  rw [List.getElem?_map, List.getElem?_range hi] at hx
  cases hx
  refine ⟨Ext.refl _ _, c', ?_⟩
  show FD γ.K w'.rh H2 (.int (lo + (i : Int))) (.int (lo + (i : Int) * 1))
  rw [Int.mul_one]
  exact FD.int _
theorem ri_rg1 (hg : RdA γ E ga tga) : RdI γ E (sRg1 ga) (iRng1 tga) := by
  intro w st a σ H R c ce h
  refine hg w st a σ H _ c ce (Good.bind h fun xs s1 us H1 e1 c1 r1 h1 => ?_)
  split at h1
  · split at h1
    · rename_i hs
      obtain ⟨u, rfl, ru⟩ := cv1 r1
      cases ru
      obtain ⟨b1, b2⟩ := small62_ok hs
      exact ⟨_, rfl, b1, b2, h1 _ H1 (Ext.refl _ _) c1 itr_src⟩
    · exact h1.elim
  · exact h1.elim
theorem ri_rg2 (hg : RdA γ E ga tga) : RdI γ E (sRg2 ga) (iRng2 tga) := by
  intro w st a σ H R c ce h
  refine hg w st a σ H _ c ce (Good.bind h fun xs s1 us H1 e1 c1 r1 h1 => ?_)
  split at h1
  · split at h1
    · rename_i hs
      obtain ⟨u, v, rfl, ru, rv⟩ := cv2 r1
      cases ru; cases rv
      simp only [Bool.and_eq_true] at hs
      obtain ⟨b1, b2⟩ := small62_ok hs.1
      obtain ⟨b3, b4⟩ := small62_ok hs.2
      exact ⟨_, _, rfl, ⟨b1, b2, b3, b4⟩, h1 _ H1 (Ext.refl _ _) c1 itr_src⟩
    · exact h1.elim
  · exact h1.elim
theorem ri_rg3 (hg : RdA γ E ga tga) : RdI γ E (sRg3 ga) (iRng3 tga) := by
  intro w st a σ H R c ce h
  refine hg w st a σ H _ c ce (Good.bind h fun xs s1 us H1 e1 c1 r1 h1 => ?_)
  split at h1
  · split at h1
    · rename_i hs
      cases r1 with
      | cons ra rr =>
      obtain ⟨u, v, rfl, ru, rv⟩ := cv2 rr
      cases ra; cases ru; cases rv
      simp only [Bool.and_eq_true] at hs
      obtain ⟨b1, b2⟩ := small62_ok hs.1.1
      obtain ⟨b3, b4⟩ := small62_ok hs.1.2
      have hk := of_decide_eq_true hs.2
      subst hk
      exact ⟨_, _, _, _, rfl, RgC.neg b1 b2 b3 b4, h1 _ H1 (Ext.refl _ _) c1 itc_src⟩
    · exact h1.elim
  · exact h1.elim
/-! ### enumerate(list) -/
def enA (ds : List PyData) : List AV := ds.mapIdx fun i d => AV.d (.tuple [.int i, d])
end
/-! ### targets -/
abbrev FG := AV → Env → Option Env
def RdG (γ : Gc) (f : FG) (g : TG) (own : List Nat) : Prop := ∀ (w : Wd) (st : Store) (a a' : Env) (σ : L2.St) (H : Hp) (x : AV) (v : V) (Q : L2.St → Hp → Prop), ConS γ w st H → ConE γ.K w H a σ → ConV γ.K w H x v → f x a = some a' →
  (∀ σ', ConE γ.K w H a' σ' → (∀ vs, (∀ i ∈ own, i ∈ vs) → wipe σ' vs = wipe σ vs) → Q σ' H) → g v σ H Q
theorem wipe_get {σ : L2.St} : ∀ (vs : List Nat) (j : Nat), (wipe σ vs)[j]? = if j ∈ vs then σ[j]?.map fun _ => none else σ[j]?
  | [], j => by simp [wipe]
  | v :: vs, j => by
    unfold wipe
    by_cases hj : v = j
    · subst hj
      rw [List.getElem?_set_self']
      rw [wipe_get vs v]
      simp only [List.mem_cons, true_or, if_true]
      split
      · cases σ[v]? <;> rfl
      · cases σ[v]? <;> rfl
    · rw [List.getElem?_set_ne hj, wipe_get vs j]
      have : (j ∈ v :: vs) ↔ j ∈ vs := by simp [List.mem_cons, Ne.symm hj]
      simp only [this]
theorem wipe_set {σ : L2.St} {i : Nat} {v : V} {vs : List Nat} (h : i ∈ vs) : wipe (σ.set i (some v)) vs = wipe σ vs := by
  apply List.ext_getElem?
  intro j
  rw [wipe_get, wipe_get]
  by_cases hj : i = j
  · subst hj
    simp only [h, if_true]
    rw [List.getElem?_set_self']
    cases σ[i]? <;> rfl
  · rw [List.getElem?_set_ne hj]
def gNm (i : Nat) : FG := fun x a => some (a.set i (some x))
def gUn (is : List Nat) : FG := fun x a => match x with
  | .d (.tuple ds) => if ds.length = is.length then some ((is.zip ds).foldl (fun a p => a.set p.1 (some (.d p.2))) a) else none
  | _ => none
theorem rg_name {γ : Gc} {i : Nat} : RdG γ (gNm i) (gName i) [i] := by
  intro w st a a' σ H x v Q c ce r e k
  cases e
  exact k _ (ce.set i r) fun vs hv => wipe_set (hv i (by simp))
def gsOf : List Nat → TGs
  | [] => gNil
  | i :: is => gCons (gName i) (gsOf is)
theorem gs_ok {γ : Gc} {w : Wd} {H : Hp} : ∀ (is : List Nat) (ds : List PyData) (vs : List V) (a : Env) (σ : L2.St) (Q : L2.St → Hp → Prop), ds.length = is.length → FDs γ.K w.rh H vs ds → ConE γ.K w H a σ →
    (∀ σ', ConE γ.K w H ((is.zip ds).foldl (fun a p => a.set p.1 (some (.d p.2))) a) σ' → (∀ ws, (∀ i ∈ is, i ∈ ws) → wipe σ' ws = wipe σ ws) → Q σ' H) → gsOf is vs σ H Q
  | [], [], _, a, σ, Q, _, .nil, ce, k => ⟨rfl, k σ ce fun _ _ => rfl⟩
  | i :: is, d :: ds, _, a, σ, Q, hl, .cons (v := v) h t, ce, k => by
    refine ⟨v, _, rfl, ?_⟩
    exact gs_ok is ds _ (a.set i (some (.d d))) (σ.set i (some v)) Q (by simpa using hl) t (ce.set i (x := .d d) h) fun σ' ce' hw => k σ' ce' fun ws hi => by
      rw [hw ws fun j hj => hi j (List.mem_cons_of_mem _ hj), wipe_set (hi i List.mem_cons_self)]
theorem rg_un {γ : Gc} {is : List Nat} : RdG γ (gUn is) (gTup γ.K is.length (gsOf is)) is := by
  intro w st a a' σ H x v Q c ce r e k
  unfold gUn at e
  split at e
  · split at e
    · rename_i ds hl
      cases e
      cases r with
      | tup h1 n1 f1 =>
      refine ⟨_, _, rfl, SqT.of h1, by rw [f1.length]; exact hl, gs_ok is ds _ a σ Q hl f1 ce k⟩
    · cases e
  · cases e
end NL
end
section
set_option Elab.async false
set_option linter.all false
set_option maxRecDepth 100000
set_option maxHeartbeats 4000000
/-! Comprehensions. -/
namespace NL
open PySem PySem.Spec PyProof.Rows L2

def wipeA (a : Env) : List Nat → Env
  | [] => a
  | v :: vs => (wipeA a vs).set v none
def quiet {α : Type} : Out α → Out α
  | .ok a st => .ok a st
  | _ => .stuck
/-- one turn: nothing, or an item -/
def lcTurn (tg : FG) (tt : FT) (fe : FE) (own : List Nat) (a : Env) (x : AV) (st : Store) : Out (Option PyData) :=
  match tg x (wipeA a own) with
  | none => .stuck
  | some a' => (quiet (tt a' st)).bind fun b s => if b = true then (quiet (fe a' s)).bind fun y s2 => match y with
      | .d d => .ok (some d) s2
      | _ => .stuck
    else .ok none s
def lcGo (s : Src) (turn : AV → Store → Out (Option PyData)) : Nat → Nat → List PyData → Store → Out (List PyData)
  | 0, _, acc, st => if s.ended st = true then .ok acc st else .stuck
  | k + 1, i, acc, st => match s.at st i with
    | none => .stuck
    | some x => (turn x st).bind fun o st' => match o with
      | none => lcGo s turn k (i + 1) acc st'
      | some d => if acc.length < sizeLine then lcGo s turn k (i + 1) (acc ++ [d]) st' else .stuck
def nLc (src : FSrc) (tg : FG) (tt : FT) (fe : FE) (own : List Nat) : FN := fun a st => (src a st).bind fun s s1 => (lcGo s (lcTurn tg tt fe own a) s.len 0 [] s1).bind fun xs s2 => .ok (.l xs) s2
/-- one turn of a dict comprehension -/
def dcTurn (tg : FG) (tt : FT) (fk fv : FE) (own : List Nat) (a : Env) (x : AV) (st : Store) : Out (Option (Key × PyData)) :=
  match tg x (wipeA a own) with
  | none => .stuck
  | some a' => (quiet (tt a' st)).bind fun b s => if b = true then (quiet (fk a' s)).bind fun y s2 => (quiet (fv a' s2)).bind fun z s3 => match y, z with
      | .d k, .d d => match toKey k with
        | some kk => .ok (some (kk, d)) s3
        | none => .stuck
      | _, _ => .stuck
    else .ok none s
def dcGo (s : Src) (turn : AV → Store → Out (Option (Key × PyData))) : Nat → Nat → List (Key × PyData) → Store → Out (List (Key × PyData))
  | 0, _, acc, st => if s.ended st = true then .ok acc st else .stuck
  | k + 1, i, acc, st => match s.at st i with
    | none => .stuck
    | some x => (turn x st).bind fun o st' => match o with
      | none => dcGo s turn k (i + 1) acc st'
      | some d => if acc.length < sizeLine then dcGo s turn k (i + 1) (putD acc d.1 d.2) st' else .stuck
def nDc (src : FSrc) (tg : FG) (tt : FT) (fk fv : FE) (own : List Nat) : FN := fun a st => (src a st).bind fun s s1 => (dcGo s (dcTurn tg tt fk fv own a) s.len 0 [] s1).bind fun xs s2 => .ok (.d (.k xs)) s2
def E0 : XK := fun _ _ _ => False
section
variable {γ : Gc} {E : XK} {K : PySem.W.Frag} {w : Wd} {st : Store} {H H1 H' : Hp}
theorem ConE.wipe {a : Env} {σ : L2.St} (h : ConE K w H a σ) : ∀ vs : List Nat, ConE K w H (wipeA a vs) (L2.wipe σ vs)
  | [] => h
  | v :: vs => (ConE.wipe h vs).forget v
theorem wipe_wipe (σ : L2.St) (vs : List Nat) : L2.wipe (L2.wipe σ vs) vs = L2.wipe σ vs := by
  apply List.ext_getElem?
  intro j
  rw [wipe_get, wipe_get]
  split
  · cases σ[j]? <;> rfl
  · rfl
theorem quiet_ok {α : Type} {o : Out α} {a : α} {st : Store} (h : quiet o = .ok a st) : o = .ok a st := by
  cases o <;> cases h
  rfl
/-- an outcome that must not raise -/
theorem good_quiet {α β : Type} {R : Hp → α → β → Prop} {Q : β → Hp → Prop} {o : Out α} (n : quiet o ≠ .stuck) (h : ∀ a s u H2, quiet o = .ok a s → Ext w.al H H2 → ConS γ w s H2 → R H2 a u → Q u H2) : Good γ w H E0 R Q o := by
  cases o with
  | ok a s => exact fun u H2 e c r => h a s u H2 rfl e c r
  | exc n' x s => exact absurd rfl n
  | stuck => exact absurd rfl n
theorem Ext.past {al : List Addr} {p : Addr} {o : HO} (e : Ext al H H') (hp : H p = none) : Ext al H (L2.upd H' p o) := fun a u h n t => by
  rw [upd_ne (ne_of_none h hp)]
  exact e a u h n t
/-- a reserved place, no cell, is written -/
theorem ConS.wres (g : γ.Ok) (c : ConS γ w st H) {p : Addr} {o o' : HO} (hr : w.rh p) (hn : ¬ p ∈ w.al) (hp : H p = some o') (hw' : Wr o') (hw : Wr o) : ConS γ w st (upd H p o) := by
  have e : Ext [p] H (upd H p o) := Ext.upd (.inr (by simp))
  have s : ∀ a ∈ [p], w.rh a := fun a h => by rw [List.mem_singleton.mp h]; exact hr
  refine ⟨c.len, c.nd, c.sub, fun a ha => ?_, fun l a cl h1 h2 => ?_, g.set _ _ _ _ c.glob hp hw', c.xa⟩
  · by_cases hb : a = p
    · rw [hb]; exact ⟨o, upd_same, hw⟩
    · obtain ⟨u, hu, q⟩ := c.trk a ha
      exact ⟨u, by rw [upd_ne hb]; exact hu, q⟩
  · exact (c.cell l a cl h1 h2).keep e s fun o' ho => by rw [upd_ne (fun z => hn (by subst z; exact List.mem_of_getElem? h1))]; exact ho
end
theorem rn_lc {γ : Gc} (g0 : γ.Ok) {E : XK} {src : FSrc} {wi : TI} {tg : FG} {g : TG} {tt : FT} {tT : TT} {fe : FE} {tE : TE} {own : List Nat} (hsrc : RdI γ E src wi) (hG : RdG γ tg g own) (hT : RdT γ E0 tt tT) (hE : RdE γ E0 fe tE) :
    RdN γ E (nLc src tg tt fe own) (tLc wi g tT tE own) := by
  intro w st a σ H Q c ce h
  refine hsrc w st a σ H _ c ce (Good.bindN c.sub h fun s s1 J H1 e1 c1 ok h1 => ?_)
  intro D hD
  have gr : Grow w H1 (w.res D) := grow_res w (.inl hD)
  have ce1 := ce.ext e1 c.sub
  have nD : ¬ D ∈ w.al := fun z => c1.fresh hD (c1.sub _ z)
  obtain ⟨c0, e0, _⟩ := c1.resv g0 (o := .lst []) hD trivial
  refine ⟨fun i m H' => m = s.len - i ∧ i ≤ s.len ∧ ∃ st' acc vs, ConS γ (w.res D) st' H' ∧ Ext w.al H1 H' ∧ H' D = some (.lst vs) ∧ FDs γ.K (w.res D).rh H' vs acc ∧ GoodN γ w H1 E Q ((lcGo s (lcTurn tg tt fe own a) (s.len - i) i acc st').bind fun xs s2 => .ok (.l xs) s2),
    ⟨s.len, by simp, Nat.zero_le _, s1, [], [], c0, e0, upd_same, .nil, h1⟩, ?_⟩
  rintro i m H' ⟨rfl, hi, st', acc, vs, c', e', hv, hf, hg⟩
  obtain ⟨item, fin⟩ := ok (w.res D) st' H' gr e' c'
  by_cases hlt : i < s.len
  · obtain ⟨k, hk⟩ : ∃ k, s.len - i = k + 1 := ⟨s.len - i - 1, by omega⟩
    have hk' : s.len - (i + 1) = k := by omega
    rw [hk] at hg
    simp only [lcGo] at hg
    cases ex : s.at st' i with
    | none => rw [ex] at hg; exact hg.elim
    | some x =>
    rw [ex] at hg
    simp only [Out.bind_assoc] at hg
    obtain ⟨go, yl⟩ := item i x hlt ex
    refine .inr ⟨go, fun H' => i + 1 ≤ s.len ∧ ∃ st' acc vs, ConS γ (w.res D) st' H' ∧ Ext w.al H1 H' ∧ H' D = some (.lst vs) ∧ FDs γ.K (w.res D).rh H' vs acc ∧ GoodN γ w H1 E Q ((lcGo s (lcTurn tg tt fe own a) (s.len - (i + 1)) (i + 1) acc st').bind fun xs s2 => .ok (.l xs) s2), fun H' n => ⟨s.len - (i + 1), by omega, rfl, n⟩, fun v H2 y => ?_⟩
    obtain ⟨e2, c2, r2⟩ := yl v H2 y
    have e2w : Ext w.al H' H2 := e2
    have e12 : Ext w.al H1 H2 := e'.trans e2w
    have ce2 := (ce1.wipe own).grow gr e12 c1.sub
    unfold lcTurn at hg
    cases et : tg x (wipeA a own) with
    | none => rw [et] at hg; exact hg.elim
    | some a' =>
    rw [et] at hg
    simp only [Out.bind_assoc] at hg
    refine hG (w.res D) st' (wipeA a own) a' (wipe σ own) H2 x v _ c2 ce2 r2 et fun σ2 ce3 hw => ⟨(hw own fun _ h => h).trans (wipe_wipe σ own), ?_⟩
    have keepD : ∀ {H3 : Hp}, Ext w.al H2 H3 → H3 D = some (.lst vs) := fun e => e _ _ (e2w _ _ hv nD fun _ z => nomatch z) nD fun _ z => nomatch z
    refine hT (w.res D) st' a' σ2 H2 _ c2 ce3 (good_quiet (fun z => by rw [z] at hg; exact hg.elim) fun b s3 b' H3 eb e3 c3 rb => ?_)
    cases (rb : b = b')
    rw [eb] at hg
    simp only [Out.bind_ok] at hg
    have e3w : Ext w.al H2 H3 := e3
    cases b with
    | false =>
      simp only [Bool.false_eq_true, if_false, Out.bind_ok] at hg ⊢
      refine ⟨hlt, s3, acc, vs, c3, e12.trans e3w, keepD e3w, FDs.ext (e2.trans e3) c'.sub hf, ?_⟩
      rw [hk']; exact hg
    | true =>
      simp only [if_true, Out.bind_assoc] at hg ⊢
      refine hE (w.res D) s3 a' σ2 H3 _ c3 (ce3.ext e3 c2.sub) (good_quiet (fun z => by rw [z] at hg; exact hg.elim) fun yv s4 u H4 ey e4 c4 ry => ?_)
      rw [ey] at hg
      simp only [Out.bind_ok] at hg
      have e4w : Ext w.al H3 H4 := e4
      have e24 : Ext w.al H2 H4 := e3w.trans e4w
      cases yv with
      | d d =>
        simp only [Out.bind_ok] at hg
        split at hg
        · rename_i hz
          refine ⟨vs, keepD e24, by rw [hf.length]; exact hz, hlt, s4, acc ++ [d], vs ++ [u], c4.wres g0 (.inr rfl) nD (keepD e24) trivial trivial, (e12.trans e24).past hD, upd_same, ?_, ?_⟩
          · have ex : Ext [D] H4 (upd H4 D (.lst (vs ++ [u]))) := Ext.upd (.inr (by simp))
            have sx : ∀ a ∈ [D], (w.res D).rh a := fun a h => .inr (List.mem_singleton.mp h)
            exact (FDs.ext ex sx (FDs.ext (e2.trans (e3.trans e4)) c'.sub hf)).append (.cons (FD.ext ex sx ry) .nil)
          · rw [hk']; exact hg
        · exact hg.elim
      | r _ => exact hg.elim
      | c _ => exact hg.elim
      | z _ => exact hg.elim
      | e _ => exact hg.elim
  · have he : i = s.len := by omega
    subst he
    simp only [Nat.sub_self, lcGo] at hg
    split at hg
    · rename_i hen
      refine .inl ⟨fin hen, hg D H' e' (grow_add w (.inl hD)) (c'.settle nD ⟨vs, hv, hf⟩)⟩
    · exact hg.elim
theorem rn_dc {γ : Gc} (g0 : γ.Ok) {E : XK} {src : FSrc} {wi : TI} {tg : FG} {g : TG} {tt : FT} {tT : TT} {fk fv : FE} {tK tV : TE} {own : List Nat} (hsrc : RdI γ E src wi) (hG : RdG γ tg g own) (hT : RdT γ E0 tt tT) (hK : RdE γ E0 fk tK) (hV : RdE γ E0 fv tV) :
    RdN γ E (nDc src tg tt fk fv own) (tDc wi g tT tK tV own) := by
  intro w st a σ H Q c ce h
  refine hsrc w st a σ H _ c ce (Good.bindN c.sub h fun s s1 J H1 e1 c1 ok h1 => ?_)
  intro D hD
  have gr : Grow w H1 (w.res D) := grow_res w (.inl hD)
  have ce1 := ce.ext e1 c.sub
  have nD : ¬ D ∈ w.al := fun z => c1.fresh hD (c1.sub _ z)
  obtain ⟨c0, e0, _⟩ := c1.resv g0 (o := .dK []) hD trivial
  refine ⟨fun i m H' => m = s.len - i ∧ i ≤ s.len ∧ ∃ st' acc vs, ConS γ (w.res D) st' H' ∧ Ext w.al H1 H' ∧ H' D = some (.dK vs) ∧ Paired (fun (p : Key × V) (q : Key × PyData) => p.1 = q.1 ∧ FD γ.K (w.res D).rh H' p.2 q.2) vs acc ∧
      GoodN γ w H1 E Q ((dcGo s (dcTurn tg tt fk fv own a) (s.len - i) i acc st').bind fun xs s2 => .ok (.d (.k xs)) s2),
    ⟨s.len, by simp, Nat.zero_le _, s1, [], [], c0, e0, upd_same, .nil, h1⟩, ?_⟩
  rintro i m H' ⟨rfl, hi, st', acc, vs, c', e', hv, hf, hg⟩
  obtain ⟨item, fin⟩ := ok (w.res D) st' H' gr e' c'
  by_cases hlt : i < s.len
  · obtain ⟨k, hk⟩ : ∃ k, s.len - i = k + 1 := ⟨s.len - i - 1, by omega⟩
    have hk' : s.len - (i + 1) = k := by omega
    rw [hk] at hg
    simp only [dcGo] at hg
    cases ex : s.at st' i with
    | none => rw [ex] at hg; exact hg.elim
    | some x =>
    rw [ex] at hg
    simp only [Out.bind_assoc] at hg
    obtain ⟨go, yl⟩ := item i x hlt ex
    refine .inr ⟨go, fun H' => i + 1 ≤ s.len ∧ ∃ st' acc vs, ConS γ (w.res D) st' H' ∧ Ext w.al H1 H' ∧ H' D = some (.dK vs) ∧ Paired (fun (p : Key × V) (q : Key × PyData) => p.1 = q.1 ∧ FD γ.K (w.res D).rh H' p.2 q.2) vs acc ∧
      GoodN γ w H1 E Q ((dcGo s (dcTurn tg tt fk fv own a) (s.len - (i + 1)) (i + 1) acc st').bind fun xs s2 => .ok (.d (.k xs)) s2), fun H' n => ⟨s.len - (i + 1), by omega, rfl, n⟩, fun v H2 y => ?_⟩
    obtain ⟨e2, c2, r2⟩ := yl v H2 y
    have e2w : Ext w.al H' H2 := e2
    have e12 : Ext w.al H1 H2 := e'.trans e2w
    have ce2 := (ce1.wipe own).grow gr e12 c1.sub
    unfold dcTurn at hg
    cases et : tg x (wipeA a own) with
    | none => rw [et] at hg; exact hg.elim
    | some a' =>
    rw [et] at hg
    simp only [Out.bind_assoc] at hg
    refine hG (w.res D) st' (wipeA a own) a' (wipe σ own) H2 x v _ c2 ce2 r2 et fun σ2 ce3 hw => ⟨(hw own fun _ h => h).trans (wipe_wipe σ own), ?_⟩
    have keepD : ∀ {H3 : Hp}, Ext w.al H2 H3 → H3 D = some (.dK vs) := fun e => e _ _ (e2w _ _ hv nD fun _ z => nomatch z) nD fun _ z => nomatch z
    refine hT (w.res D) st' a' σ2 H2 _ c2 ce3 (good_quiet (fun z => by rw [z] at hg; exact hg.elim) fun b s3 b' H3 eb e3 c3 rb => ?_)
    cases (rb : b = b')
    rw [eb] at hg
    simp only [Out.bind_ok] at hg
    have e3w : Ext w.al H2 H3 := e3
    cases b with
    | false =>
      simp only [Bool.false_eq_true, if_false, Out.bind_ok] at hg ⊢
      refine ⟨hlt, s3, acc, vs, c3, e12.trans e3w, keepD e3w, paired_imp hf fun _ _ q => ⟨q.1, FD.ext (e2.trans e3) c'.sub q.2⟩, ?_⟩
      rw [hk']; exact hg
    | true =>
      simp only [if_true, Out.bind_assoc] at hg ⊢
      refine hK (w.res D) s3 a' σ2 H3 _ c3 (ce3.ext e3 c2.sub) (good_quiet (fun z => by rw [z] at hg; exact hg.elim) fun yk s4 uk H4 ek e4 c4 rk => ?_)
      rw [ek] at hg
      simp only [Out.bind_ok] at hg
      refine hV (w.res D) s4 a' σ2 H4 _ c4 ((ce3.ext e3 c2.sub).ext e4 c3.sub) (good_quiet (fun z => by rw [z] at hg; exact hg.elim) fun yv s5 u H5 ey e5 c5 ry => ?_)
      rw [ey] at hg
      simp only [Out.bind_ok] at hg
      have e5w : Ext w.al H3 H5 := e4.trans e5
      have e25 : Ext w.al H2 H5 := e3w.trans e5w
      split at hg
      · rename_i kd d
        split at hg
        · rename_i kk hkk
          simp only [Out.bind_ok] at hg
          split at hg
          · rename_i hz
            have hkd := toKey_eq hkk
            subst hkd
            have uk' : uk = kV kk := FD.key rk
            refine ⟨vs, kk, uk', keepD e25, by rw [Paired.length hf]; exact hz, hlt, s5, putD acc kk d, putK vs kk u, c5.wres g0 (.inr rfl) nD (keepD e25) trivial trivial, (e12.trans e25).past hD, upd_same, ?_, ?_⟩
            · have ex : Ext [D] H5 (upd H5 D (.dK (putK vs kk u))) := Ext.upd (.inr (by simp))
              have sx : ∀ a ∈ [D], (w.res D).rh a := fun a h => .inr (List.mem_singleton.mp h)
              exact put_pair (paired_imp hf fun _ _ q => ⟨q.1, FD.ext ex sx (FD.ext (e2.trans (e3.trans (e4.trans e5))) c'.sub q.2)⟩) kk (FD.ext ex sx ry)
            · rw [hk']; exact hg
          · exact hg.elim
        · exact hg.elim
      · exact hg.elim
  · have he : i = s.len := by omega
    subst he
    simp only [Nat.sub_self, dcGo] at hg
    split at hg
    · rename_i hen
      refine .inl ⟨fin hen, hg D H' e' (grow_add w (.inl hD)) (c'.settle nD ⟨vs, hv, hf⟩)⟩
    · exact hg.elim
end NL
end
section
set_option Elab.async false
set_option linter.all false
set_option maxRecDepth 100000
set_option maxHeartbeats 4000000
/-! Statements as functions of an environment and a store. -/
namespace NL
open PySem PySem.Spec PyProof.Rows L2

/-! ### values in worlds that may grow -/
def GoodW (γ : Gc) (w : Wd) (H : Hp) (E : XK) {α β : Type} (R : Wd → Hp → α → β → Prop) (Q : β → Hp → Prop) : Out α → Prop
  | .ok v st => ∀ w' u H', Grow w H w' → Ext w.al H H' → ConS γ w' st H' → R w' H' v u → Q u H'
  | .exc n x st => ∀ w' cls d H', Grow w H w' → Ext w.al H H' → ConS γ w' st H' → ExcR γ w' H' n x cls d → E cls d H'
  | .stuck => False
abbrev WV (γ : Gc) : Wd → Hp → AV → V → Prop := fun w H => ConV γ.K w H
abbrev WVs (γ : Gc) : Wd → Hp → List AV → List V → Prop := fun w H => ConVs γ.K w H
def RdW (γ : Gc) (E : XK) (f : FE) (t : TE) : Prop := ∀ (w : Wd) (st : Store) (a : Env) (σ : L2.St) (H : Hp) (Q : VK), ConS γ w st H → ConE γ.K w H a σ → GoodW γ w H E (WV γ) Q (f a st) → t σ H Q
def RdWs (γ : Gc) (E : XK) (f : FA) (t : TA) : Prop := ∀ (w : Wd) (st : Store) (a : Env) (σ : L2.St) (H : Hp) (Q : List V → Hp → Prop), ConS γ w st H → ConE γ.K w H a σ → GoodW γ w H E (WVs γ) Q (f a st) → t σ H Q
section
variable {γ : Gc} {E : XK} {w w1 : Wd} {H H1 : Hp} {α β α' β' : Type}
theorem GoodW.shift {R : Wd → Hp → α → β → Prop} {Q : β → Hp → Prop} {o : Out α} (s : ∀ a ∈ w.al, w.rh a) (h : GoodW γ w H E R Q o) (g : Grow w H w1) (e : Ext w.al H H1) : GoodW γ w1 H1 E R Q o := by
  cases o with
  | ok v st => exact fun w' u H' g' e' c r => h w' u H' (Grow.trans s g e g') (Ext.grow e g e') c r
  | exc n x st => exact fun w' cls d H' g' e' c r => h w' cls d H' (Grow.trans s g e g') (Ext.grow e g e') c r
  | stuck => exact h
theorem GoodW.bind {R : Wd → Hp → α → β → Prop} {R' : Wd → Hp → α' → β' → Prop} {Q : β → Hp → Prop} {Q' : β' → Hp → Prop} {o : Out α} {k : α → Store → Out α'} (s : ∀ a ∈ w.al, w.rh a) (h : GoodW γ w H E R' Q' (o.bind k))
    (step : ∀ v st w' u H1, Grow w H w' → Ext w.al H H1 → ConS γ w' st H1 → R w' H1 v u → GoodW γ w' H1 E R' Q' (k v st) → Q u H1) : GoodW γ w H E R Q o := by
  cases o with
  | ok v st => exact fun w' u H' g e c r => step v st w' u H' g e c r (GoodW.shift s h g e)
  | exc n x st => exact h
  | stuck => exact h
/-- a value in one world -/
theorem RdE.toW {f : FE} {t : TE} (h : RdE γ E f t) : RdW γ E f t := fun w st a σ H Q c ce q => h w st a σ H Q c ce (by
  cases e : f a st with
  | ok v s => rw [e] at q; exact fun u H' ex c' r => q w u H' (Grow.refl w H) ex c' r
  | exc n x s => rw [e] at q; exact fun cls d H' ex c' r => q w cls d H' (Grow.refl w H) ex c' r
  | stuck => rw [e] at q; exact q)
def thaw (f : FN) : FE := fun a st => (f a st).bind fun c s => .ok (.r s.length) (s ++ [c])
theorem RdN.toW {f : FN} {t : TE} (h : RdN γ E f t) : RdW γ E (thaw f) t := fun w st a σ H Q c ce q => h w st a σ H Q c ce (by
  unfold thaw at q
  cases e : f a st with
  | ok cl s =>
    rw [e] at q
    intro p H' ex g c'
    refine q (w.add p) (.ref p) H' g ex c' ⟨p, ?_, rfl⟩
    have hl : w.al.length = s.length := by
      have := c'.len
      simp only [Wd.add, List.length_append, List.length_singleton] at this
      omega
    show (w.al ++ [p])[s.length]? = some p
    rw [← hl, List.getElem?_append_right (Nat.le_refl _)]
    simp
  | exc n x s => rw [e] at q; exact fun cls d H' ex c' r => q w cls d H' (Grow.refl w H) ex c' r
  | stuck => rw [e] at q; exact q)
theorem rw_nil : RdWs γ E aNil tNil := fun w st a σ H Q c ce h => h w [] H (Grow.refl w H) (Ext.refl _ _) c .nil
theorem rw_cons {fa : FE} {ta : TE} {ga : FA} {tga : TA} (ha : RdW γ E fa ta) (hg : RdWs γ E ga tga) : RdWs γ E (aCons fa ga) (tCons ta tga) := by
  intro w st a σ H Q c ce h
  refine ha w st a σ H _ c ce (GoodW.bind c.sub h fun x s1 w1 u H1 g1 e1 c1 r1 h1 => ?_)
  refine hg w1 s1 a σ H1 _ c1 (ce.grow g1 e1 c.sub) (GoodW.bind c1.sub h1 fun xs s2 w2 us H2 g2 e2 c2 r2 h2 => ?_)
  exact h2 w2 _ H2 (Grow.refl w2 H2) (Ext.refl _ _) c2 (.cons (ConV.grow g2 e2 c1.sub r1) r2)
end

/-! ### statements -/
inductive Fl where
  | nx (a : Env)
  | rt (v : AV)
  | bk (a : Env)
  | ct (a : Env)
abbrev FS := Env → Store → Out Fl
def GoodS (γ : Gc) (w : Wd) (H : Hp) (E : XK) (D : Ends) : Out Fl → Prop
  | .ok (.nx a) st => ∀ w' σ' H', Grow w H w' → Ext w.al H H' → ConS γ w' st H' → ConE γ.K w' H' a σ' → D.nx σ' H'
  | .ok (.rt v) st => ∀ w' u H', Grow w H w' → Ext w.al H H' → ConS γ w' st H' → ConV γ.K w' H' v u → D.rt u H'
  | .ok (.bk a) st => ∀ w' σ' H', Grow w H w' → Ext w.al H H' → ConS γ w' st H' → ConE γ.K w' H' a σ' → D.bk σ' H'
  | .ok (.ct a) st => ∀ w' σ' H', Grow w H w' → Ext w.al H H' → ConS γ w' st H' → ConE γ.K w' H' a σ' → D.ct σ' H'
  | .exc n x st => ∀ w' cls d H', Grow w H w' → Ext w.al H H' → ConS γ w' st H' → ExcR γ w' H' n x cls d → E cls d H'
  | .stuck => False
def RdS (γ : Gc) (E : XK) (f : FS) (t : TS) : Prop := ∀ (w : Wd) (st : Store) (a : Env) (σ : L2.St) (H : Hp) (D : Ends), ConS γ w st H → ConE γ.K w H a σ → GoodS γ w H E D (f a st) → t D σ H
def sNil : FS := fun a st => .ok (.nx a) st
def sSeq (f g : FS) : FS := fun a st => match f a st with
  | .ok (.nx a') s => g a' s
  | o => o
def sDrop (f : FE) : FS := fun a st => (f a st).bind fun _ s => .ok (.nx a) s
def sRet (f : FE) : FS := fun a st => (f a st).bind fun v s => .ok (.rt v) s
def sRetN : FS := fun _ st => .ok (.rt (.d .none)) st
def sIf (c : FT) (f g : FS) : FS := fun a st => (c a st).bind fun b s => if b = true then f a s else g a s
def sBk : FS := fun a st => .ok (.bk a) st
def sCt : FS := fun a st => .ok (.ct a) st
def sAsg (tg : FG) (f : FE) : FS := fun a st => (f a st).bind fun v s => match tg v a with
  | some a' => .ok (.nx a') s
  | none => .stuck
def setAll : List Nat → List AV → Env → Option Env
  | [], [], a => some a
  | i :: is, x :: xs, a => setAll is xs (a.set i (some x))
  | _, _, _ => none
def sPar (is : List Nat) (g : FA) : FS := fun a st => (g a st).bind fun xs s => match setAll is xs a with
  | some a' => .ok (.nx a') s
  | none => .stuck
/-- x[i] = v -/
def putL (st : Store) (x i v : AV) : Option Store := match x, i, v with
  | .r l, .d (.int k), .d d => match st[l]? with
    | some (.l ys) => match ixN ys.length k with
      | some j => some (st.set l (.l (ys.set j d)))
      | none => none
    | _ => none
  | _, _, _ => none
def sPutL (fo fi fv : FE) : FS := fun a st => (fv a st).bind fun v s1 => (fo a s1).bind fun o s2 => (fi a s2).bind fun i s3 => match putL s3 o i v with
  | some s4 => .ok (.nx a) s4
  | none => .stuck
/-- a loop over what is walked -/
def forGo (s : Src) (tg : FG) (body : FS) : Nat → Nat → Env → Store → Out Fl
  | 0, _, a, st => if s.ended st = true then .ok (.nx a) st else .stuck
  | k + 1, i, a, st => match s.at st i with
    | none => .stuck
    | some x => match tg x a with
      | none => .stuck
      | some a' => match body a' st with
        | .ok (.nx a2) s2 => forGo s tg body k (i + 1) a2 s2
        | .ok (.ct a2) s2 => forGo s tg body k (i + 1) a2 s2
        | .ok (.bk a2) s2 => .ok (.nx a2) s2
        | .ok (.rt v) s2 => .ok (.rt v) s2
        | .exc n x s2 => .exc n x s2
        | .stuck => .stuck
def sFor (src : FSrc) (tg : FG) (body : FS) : FS := fun a st => (src a st).bind fun s s1 => forGo s tg body s.len 0 a s1
/-- a loop of at most so many turns -/
def whileGo (c : FT) (body : FS) : Nat → Env → Store → Out Fl
  | 0, _, _ => .stuck
  | k + 1, a, st => (c a st).bind fun b s => if b = true then match body a s with
      | .ok (.nx a2) s2 => whileGo c body k a2 s2
      | .ok (.ct a2) s2 => whileGo c body k a2 s2
      | .ok (.bk a2) s2 => .ok (.nx a2) s2
      | .ok (.rt v) s2 => .ok (.rt v) s2
      | .exc n x s2 => .exc n x s2
      | .stuck => .stuck
    else .ok (.nx a) s
def sWhile (n : Nat) (c : FT) (body : FS) : FS := fun a st => whileGo c body n a st
section
variable {γ : Gc} {E : XK} {w w1 : Wd} {H H1 : Hp} {D : Ends}
theorem GoodS.shift {o : Out Fl} (s : ∀ a ∈ w.al, w.rh a) (h : GoodS γ w H E D o) (g : Grow w H w1) (e : Ext w.al H H1) : GoodS γ w1 H1 E D o := by
  cases o with
  | ok f st =>
    cases f with
    | nx a => exact fun w' u H' g' e' c r => h w' u H' (Grow.trans s g e g') (Ext.grow e g e') c r
    | rt a => exact fun w' u H' g' e' c r => h w' u H' (Grow.trans s g e g') (Ext.grow e g e') c r
    | bk a => exact fun w' u H' g' e' c r => h w' u H' (Grow.trans s g e g') (Ext.grow e g e') c r
    | ct a => exact fun w' u H' g' e' c r => h w' u H' (Grow.trans s g e g') (Ext.grow e g e') c r
  | exc n x st => exact fun w' cls d H' g' e' c r => h w' cls d H' (Grow.trans s g e g') (Ext.grow e g e') c r
  | stuck => exact h
theorem GoodS.bindW {α β : Type} {R : Wd → Hp → α → β → Prop} {Q : β → Hp → Prop} {o : Out α} {k : α → Store → Out Fl} (s : ∀ a ∈ w.al, w.rh a) (h : GoodS γ w H E D (o.bind k))
    (step : ∀ v st w' u H1, Grow w H w' → Ext w.al H H1 → ConS γ w' st H1 → R w' H1 v u → GoodS γ w' H1 E D (k v st) → Q u H1) : GoodW γ w H E R Q o := by
  cases o with
  | ok v st => exact fun w' u H' g e c r => step v st w' u H' g e c r (GoodS.shift s h g e)
  | exc n x st => exact h
  | stuck => exact h
theorem GoodS.bind {α β : Type} {R : Hp → α → β → Prop} {Q : β → Hp → Prop} {o : Out α} {k : α → Store → Out Fl} (s : ∀ a ∈ w.al, w.rh a) (h : GoodS γ w H E D (o.bind k))
    (step : ∀ v st u H1, Ext w.al H H1 → ConS γ w st H1 → R H1 v u → GoodS γ w H1 E D (k v st) → Q u H1) : Good γ w H E R Q o := by
  cases o with
  | ok v st => exact fun u H' e c r => step v st u H' e c r (GoodS.shift s h (Grow.refl w H) e)
  | exc n x st => exact fun cls d H' e c r => h w cls d H' (Grow.refl w H) e c r
  | stuck => exact h
theorem rs_nil : RdS γ E sNil tNext := fun w st a σ H D c ce h => h w σ H (Grow.refl w H) (Ext.refl _ _) c ce
theorem rs_seq {f g : FS} {t u : TS} (hf : RdS γ E f t) (hg : RdS γ E g u) : RdS γ E (sSeq f g) (tSeq t u) := by
  intro w st a σ H D c ce h
  refine hf w st a σ H _ c ce ?_
  unfold sSeq at h
  cases e : f a st with
  | ok fl s =>
    rw [e] at h
    cases fl with
    | nx a' => exact fun w' σ' H' g' e' c' r => hg w' s a' σ' H' D c' r (GoodS.shift c.sub h g' e')
    | rt v => exact h
    | bk a' => exact h
    | ct a' => exact h
  | exc n x s => rw [e] at h; exact h
  | stuck => rw [e] at h; exact h
theorem rs_drop {f : FE} {t : TE} (hf : RdE γ E f t) : RdS γ E (sDrop f) (tDrop t) := by
  intro w st a σ H D c ce h
  refine hf w st a σ H _ c ce (GoodS.bind c.sub h fun v s u H1 e1 c1 r1 h1 => ?_)
  exact h1 w σ H1 (Grow.refl w H1) (Ext.refl _ _) c1 (ce.ext e1 c.sub)
theorem rs_ret {f : FE} {t : TE} (hf : RdW γ E f t) : RdS γ E (sRet f) (tRet t) := by
  intro w st a σ H D c ce h
  refine hf w st a σ H _ c ce (GoodS.bindW c.sub h fun v s w1 u H1 g1 e1 c1 r1 h1 => ?_)
  exact h1 w1 u H1 (Grow.refl w1 H1) (Ext.refl _ _) c1 r1
theorem rs_retN : RdS γ E sRetN tRetN := fun w st a σ H D c ce h => h w .non H (Grow.refl w H) (Ext.refl _ _) c FD.non
theorem rs_if {c : FT} {f g : FS} {tc : TT} {t u : TS} (hc : RdT γ E c tc) (hf : RdS γ E f t) (hg : RdS γ E g u) : RdS γ E (sIf c f g) (tIfS tc t u) := by
  intro w st a σ H D cs ce h
  refine hc w st a σ H _ cs ce (GoodS.bind cs.sub h fun b s u H1 e1 c1 r1 h1 => ?_)
  cases (r1 : b = u)
  cases b with
  | true => exact hf w s a σ H1 D c1 (ce.ext e1 cs.sub) h1
  | false => exact hg w s a σ H1 D c1 (ce.ext e1 cs.sub) h1
theorem rs_bk : RdS γ E sBk tBreak := fun w st a σ H D c ce h => h w σ H (Grow.refl w H) (Ext.refl _ _) c ce
theorem rs_ct : RdS γ E sCt tCont := fun w st a σ H D c ce h => h w σ H (Grow.refl w H) (Ext.refl _ _) c ce
theorem rs_asg {tg : FG} {f : FE} {t : TE} {g : TG} {own : List Nat} (hf : RdW γ E f t) (hg : RdG γ tg g own) : RdS γ E (sAsg tg f) (tAsg t g) := by
  intro w st a σ H D c ce h
  refine hf w st a σ H _ c ce (GoodS.bindW c.sub h fun v s w1 u H1 g1 e1 c1 r1 h1 => ?_)
  cases et : tg v a with
  | none => rw [et] at h1; exact h1.elim
  | some a' =>
    rw [et] at h1
    exact hg w1 s a a' σ H1 v u _ c1 (ce.grow g1 e1 c.sub) r1 et fun σ' ce' _ => h1 w1 σ' H1 (Grow.refl w1 H1) (Ext.refl _ _) c1 ce'
/-- stored one behind the other -/
def setSt : List Nat → List V → L2.St → L2.St
  | i :: is, v :: vs, σ => setSt is vs (σ.set i (some v))
  | _, _, σ => σ
theorem setAll_ok {K : PySem.W.Frag} : ∀ (is : List Nat) (xs : List AV) (vs : List V) (a a' : Env) (σ : L2.St), ConVs K w H xs vs → ConE K w H a σ → setAll is xs a = some a' → vs.length = is.length ∧ ConE K w H a' (setSt is vs σ)
  | [], [], _, a, a', σ, .nil, ce, e => by cases e; exact ⟨rfl, ce⟩
  | i :: is, x :: xs, _, a, a', σ, .cons r t, ce, e => by
    obtain ⟨h1, h2⟩ := setAll_ok is xs _ (a.set i (some x)) a' (σ.set i (some _)) t (ce.set i r) e
    exact ⟨by simp [h1], h2⟩
  | [], _ :: _, _, _, _, _, .cons _ _, _, e => by cases e
  | _ :: _, [], _, _, _, _, .nil, _, e => by cases e
theorem rs_par2 {i j : Nat} {g : FA} {t : TA} (hg : RdWs γ E g t) : RdS γ E (sPar [i, j] g) (tPar i j t) := by
  intro w st a σ H D c ce h
  refine hg w st a σ H _ c ce (GoodS.bindW c.sub h fun xs s w1 us H1 g1 e1 c1 r1 h1 => ?_)
  cases et : setAll [i, j] xs a with
  | none => rw [et] at h1; exact h1.elim
  | some a' =>
    rw [et] at h1
    obtain ⟨hl, ce'⟩ := setAll_ok _ _ _ _ _ _ r1 (ce.grow g1 e1 c.sub) et
    match us, hl with
    | [u, v], _ => exact ⟨u, v, rfl, h1 w1 _ H1 (Grow.refl w1 H1) (Ext.refl _ _) c1 ce'⟩
theorem rs_par3 {i j l : Nat} {g : FA} {t : TA} (hg : RdWs γ E g t) : RdS γ E (sPar [i, j, l] g) (tPar3 i j l t) := by
  intro w st a σ H D c ce h
  refine hg w st a σ H _ c ce (GoodS.bindW c.sub h fun xs s w1 us H1 g1 e1 c1 r1 h1 => ?_)
  cases et : setAll [i, j, l] xs a with
  | none => rw [et] at h1; exact h1.elim
  | some a' =>
    rw [et] at h1
    obtain ⟨hl, ce'⟩ := setAll_ok _ _ _ _ _ _ r1 (ce.grow g1 e1 c.sub) et
    match us, hl with
    | [u, v, x], _ => exact ⟨u, v, x, rfl, h1 w1 _ H1 (Grow.refl w1 H1) (Ext.refl _ _) c1 ce'⟩
theorem gsOf_set : ∀ (is : List Nat) (vs : List V) (σ : L2.St) (H : Hp) (Q : L2.St → Hp → Prop), vs.length = is.length → Q (setSt is vs σ) H → gsOf is vs σ H Q
  | [], [], σ, H, Q, _, q => ⟨rfl, q⟩
  | i :: is, v :: vs, σ, H, Q, hl, q => ⟨v, vs, rfl, gsOf_set is vs (σ.set i (some v)) H Q (by simpa using hl) q⟩
/-- the tuple is made, then taken apart -/
theorem rs_parT (g0 : γ.Ok) {is : List Nat} {g : FA} {t : TA} (hz : is.length ≤ sizeLine) (hg : RdWs γ E g t) : RdS γ E (sPar is g) (tAsg (tTup t) (gTup γ.K is.length (gsOf is))) := by
  intro w st a σ H D c ce h
  refine hg w st a σ H _ c ce (GoodS.bindW c.sub h fun xs s w1 us H1 g1 e1 c1 r1 h1 => ?_)
  cases et : setAll is xs a with
  | none => rw [et] at h1; exact h1.elim
  | some a' =>
    rw [et] at h1
    obtain ⟨hl, ce'⟩ := setAll_ok _ _ _ _ _ _ r1 (ce.grow g1 e1 c.sub) et
    refine ⟨by rw [hl]; exact hz, fun p hp => ?_⟩
    obtain ⟨c2, e2⟩ := c1.laid g0 (o := .tup us) hp
    exact ⟨p, us, rfl, SqT.of upd_same, hl, gsOf_set is us σ _ _ hl (h1 w1 _ _ (Grow.refl w1 H1) e2 c2 (ce'.ext e2 c1.sub))⟩
theorem putL_ok (g0 : γ.Ok) {w : Wd} {st st' : Store} {H : Hp} {x i v : AV} {xo xi xv : V} {Q : Hp → Prop} (c : ConS γ w st H) (rx : ConV γ.K w H x xo) (ri : ConV γ.K w H i xi) (rv : ConV γ.K w H v xv) (e : putL st x i v = some st')
    (k : ∀ H', Ext w.al H H' → ConS γ w st' H' → Q H') : rSetL xo xi xv H Q := by
  unfold putL at e
  split at e
  · rename_i l kk d
    split at e
    · rename_i ys el
      split at e
      · rename_i j hj
        cases e
        obtain ⟨p, hp, rfl⟩ := rx
        cases ri
        obtain ⟨vs, h1, f1⟩ := c.cell _ _ _ hp el
        have ee : Ext w.al H (upd H p (.lst (vs.set j xv))) := Ext.upd (.inr (List.mem_of_getElem? hp))
        obtain ⟨c3, e3⟩ := c.write g0 hp (cell_len c hp) (cl := .l (ys.set j d)) (o := .lst (vs.set j xv)) ⟨_, upd_same, (f1.ext ee c.sub).set (FD.ext ee c.sub rv) j⟩
        exact ⟨p, vs, kk, j, rfl, rfl, h1, by rw [f1.length]; exact hj, k _ e3 c3⟩
      · cases e
    · cases e
  · cases e
theorem rs_putL (g0 : γ.Ok) {fo fi fv : FE} {to ti tv : TE} (ho : RdE γ E fo to) (hi : RdE γ E fi ti) (hv : RdE γ E fv tv) : RdS γ E (sPutL fo fi fv) (tAsg tv (gSub to ti rSetL)) := by
  intro w st a σ H D c ce h
  refine hv w st a σ H _ c ce (GoodS.bind c.sub h fun v s1 u1 H1 e1 c1 r1 h1 => ?_)
  refine ho w s1 a σ H1 _ c1 (ce.ext e1 c.sub) (GoodS.bind c1.sub h1 fun o s2 u2 H2 e2 c2 r2 h2 => ?_)
  refine hi w s2 a σ H2 _ c2 ((ce.ext e1 c.sub).ext e2 c1.sub) (GoodS.bind c2.sub h2 fun i s3 u3 H3 e3 c3 r3 h3 => ?_)
  cases ep : putL s3 o i v with
  | none => rw [ep] at h3; exact h3.elim
  | some s4 =>
    rw [ep] at h3
    refine putL_ok g0 c3 (ConV.ext e3 c2.sub r2) r3 (ConV.ext (e2.trans e3) c1.sub r1) ep fun H' e c' => ?_
    exact h3 w σ H' (Grow.refl w H3) e c' ((((ce.ext e1 c.sub).ext e2 c1.sub).ext e3 c2.sub).ext e c3.sub)
theorem rs_for {src : FSrc} {wi : TI} {tg : FG} {g : TG} {own : List Nat} {body : FS} {tb : TS} (hsrc : RdI γ E src wi) (hG : RdG γ tg g own) (hb : RdS γ E body tb) : RdS γ E (sFor src tg body) (tFor wi g tb) := by
  intro w st a σ H D c ce h
  refine hsrc w st a σ H _ c ce (GoodS.bind c.sub h fun s s1 J H1 e1 c1 ok h1 => ?_)
  refine ⟨fun i m σ' H' => m = s.len - i ∧ i ≤ s.len ∧ ∃ w' st' a', Grow w H1 w' ∧ Ext w.al H1 H' ∧ ConS γ w' st' H' ∧ ConE γ.K w' H' a' σ' ∧ GoodS γ w' H' E D (forGo s tg body (s.len - i) i a' st'),
    ⟨s.len, by simp, Nat.zero_le _, w, s1, a, Grow.refl w H1, Ext.refl _ _, c1, ce.ext e1 c.sub, h1⟩, ?_⟩
  rintro i m σ' H' ⟨rfl, hi, w', st', a', gr, e', c', ce', hg⟩
  obtain ⟨item, fin⟩ := ok w' st' H' gr e' c'
  by_cases hlt : i < s.len
  · obtain ⟨k, hk⟩ : ∃ k, s.len - i = k + 1 := ⟨s.len - i - 1, by omega⟩
    have hk' : s.len - (i + 1) = k := by omega
    rw [hk] at hg
    simp only [forGo] at hg
    cases ex : s.at st' i with
    | none => rw [ex] at hg; exact hg.elim
    | some x =>
    rw [ex] at hg
    simp only at hg
    obtain ⟨go, yl⟩ := item i x hlt ex
    refine .inr ⟨go, fun σ' H' => i + 1 ≤ s.len ∧ ∃ w' st' a', Grow w H1 w' ∧ Ext w.al H1 H' ∧ ConS γ w' st' H' ∧ ConE γ.K w' H' a' σ' ∧ GoodS γ w' H' E D (forGo s tg body (s.len - (i + 1)) (i + 1) a' st'), fun σ' H' n => ⟨s.len - (i + 1), by omega, rfl, n⟩, fun v H2 y => ?_⟩
    obtain ⟨e2, c2, r2⟩ := yl v H2 y
    cases et : tg x a' with
    | none => rw [et] at hg; exact hg.elim
    | some a2 =>
    rw [et] at hg
    simp only at hg
    refine hG w' st' a' a2 σ' H2 x v _ c2 (ce'.ext e2 c'.sub) r2 et fun σ2 ce2 _ => ?_
    refine hb w' st' a2 σ2 H2 _ c2 ce2 ?_
    have hg2 := GoodS.shift c'.sub hg (Grow.refl w' H') e2
    have g12 : Ext w.al H1 H2 := Ext.grow e' gr e2
    cases eb : body a2 st' with
    | ok fl s2 =>
      rw [eb] at hg2
      cases fl with
      | nx a3 =>
        intro w3 σ3 H3 g3 e3 c3 ce3
        refine ⟨hlt, w3, s2, a3, Grow.trans c1.sub gr g12 g3, Ext.grow g12 gr e3, c3, ce3, ?_⟩
        rw [hk']
        exact GoodS.shift c2.sub hg2 g3 e3
      | ct a3 =>
        intro w3 σ3 H3 g3 e3 c3 ce3
        refine ⟨hlt, w3, s2, a3, Grow.trans c1.sub gr g12 g3, Ext.grow g12 gr e3, c3, ce3, ?_⟩
        rw [hk']
        exact GoodS.shift c2.sub hg2 g3 e3
      | bk a3 => exact hg2
      | rt v => exact hg2
    | exc n x s2 => rw [eb] at hg2; exact hg2
    | stuck => rw [eb] at hg2; exact hg2
  · have he : i = s.len := by omega
    subst he
    simp only [Nat.sub_self, forGo] at hg
    split at hg
    · rename_i hen
      exact .inl ⟨fin hen, hg w' σ' H' (Grow.refl w' H') (Ext.refl _ _) c' ce'⟩
    · exact hg.elim
theorem rs_while {n : Nat} {c : FT} {tc : TT} {body : FS} {tb : TS} (hc : RdT γ E c tc) (hb : RdS γ E body tb) : RdS γ E (sWhile n c body) (tWhile tc tb) := by
  intro w st a σ H D cs ce h
  refine ⟨fun m σ' H' => ∃ w' st' a', ConS γ w' st' H' ∧ ConE γ.K w' H' a' σ' ∧ GoodS γ w' H' E D (whileGo c body m a' st'), ⟨n, w, st, a, cs, ce, h⟩, ?_⟩
  rintro m σ' H' ⟨w', st', a', c', ce', hg⟩
  cases m with
  | zero => exact hg.elim
  | succ m =>
    simp only [whileGo] at hg
    refine hc w' st' a' σ' H' _ c' ce' (GoodS.bind c'.sub hg fun b s u H1 e1 c1 r1 h1 => ?_)
    cases (r1 : b = u)
    cases b with
    | false => exact h1 w' σ' H1 (Grow.refl w' H1) (Ext.refl _ _) c1 (ce'.ext e1 c'.sub)
    | true =>
      simp only [if_true] at h1 ⊢
      refine ⟨fun σ' H' => ∃ w' st' a', ConS γ w' st' H' ∧ ConE γ.K w' H' a' σ' ∧ GoodS γ w' H' E D (whileGo c body m a' st'), fun σ2 H2 q => ⟨m, Nat.lt_succ_self m, q⟩, ?_⟩
      refine hb w' s a' σ' H1 _ c1 (ce'.ext e1 c'.sub) ?_
      cases eb : body a' s with
      | ok fl s2 =>
        rw [eb] at h1
        cases fl with
        | nx a3 => exact fun w3 σ3 H3 g3 e3 c3 ce3 => ⟨w3, s2, a3, c3, ce3, GoodS.shift c1.sub h1 g3 e3⟩
        | ct a3 => exact fun w3 σ3 H3 g3 e3 c3 ce3 => ⟨w3, s2, a3, c3, ce3, GoodS.shift c1.sub h1 g3 e3⟩
        | bk a3 => exact h1
        | rt v => exact h1
      | exc n x s2 => rw [eb] at h1; exact h1
      | stuck => rw [eb] at h1; exact h1
end
end NL
end
section
set_option Elab.async false
set_option linter.all false
set_option maxRecDepth 100000
set_option maxHeartbeats 4000000
/-! What a text means: expressions, statements, defs. -/
namespace NL
open PySem PySem.Spec PyProof.Rows L2

/-! ### more built-ins -/
def eRev (f : FE) : FE := fun a st => (f a st).bind fun x s => match vw s x with
  | some (.list xs) => .ok (.d (.list xs.reverse)) s
  | some (.tuple xs) => .ok (.d (.tuple xs.reverse)) s
  | _ => .stuck
def nCB (g : Store → List AV → Option Cell) (f : FA) : FN := fun a st => (f a st).bind fun xs s => Out.lift (g s xs) s
def nNew (c : Cell) : FN := fun _ st => .ok c st
/-- a new list of what a list, a tuple, a dict holds -/
def hList : Store → List AV → Option Cell := fun st xs => match xs with
  | [x] => (sq st x).map Cell.l
  | _ => none
def hDictK : Store → List AV → Option Cell := fun st xs => match gDictK st xs with
  | some (.c d) => some (.d d)
  | _ => none
def hDictT : Store → List AV → Option Cell := fun st xs => match gDictT st xs with
  | some (.c d) => some (.d d)
  | _ => none
/-- range(..) as an argument -/
def rgD (lo : Int) (n : Nat) : List PyData := (List.range n).map fun (i : Nat) => PyData.int (lo + (i : Int))
def rgOkB (a b : Int) : Bool := small62 a && small62 b && Nat.ble (b - a).toNat (2 ^ 24)
def rg1 (f : FE) : Env → Store → Out (Int × Int) := fun a st => (f a st).bind fun x s => Out.lift ((int1 x).map fun n => (0, n)) s
def rg2 (f g : FE) : Env → Store → Out (Int × Int) := fun a st => (f a st).bind fun x s => (g a s).bind fun y s2 => match int1 x, int1 y with
  | some i, some j => .ok (i, j) s2
  | _, _ => .stuck
def nLRg (r : Env → Store → Out (Int × Int)) : FN := fun a st => (r a st).bind fun p s => if rgOkB p.1 p.2 = true then .ok (.l (rgD p.1 (p.2 - p.1).toNat)) s else .stuck
def eTRg (r : Env → Store → Out (Int × Int)) : FE := fun a st => (r a st).bind fun p s => if rgOkB p.1 p.2 = true then .ok (.d (.tuple (rgD p.1 (p.2 - p.1).toNat))) s else .stuck
def frzF (f : FN) : FE := fun a st => (f a st).bind fun c s => .ok c.frz s
/-- enumerate(list or tuple) -/
def sEnum (f : FE) : FSrc := fun a st => (f a st).bind fun x s => match x with
  | .d (.list ds) => .ok (.xs (enA ds)) s
  | .d (.tuple ds) => .ok (.xs (enA ds)) s
  | _ => .stuck
/-- a display with stars: lists and tuples spliced in -/
def aStar (f : FE) (g : FA) : FA := fun a st => (f a st).bind fun x s => match sq s x with
  | some ds => (g a s).bind fun ys s2 => .ok (ds.map AV.d ++ ys) s2
  | none => .stuck
/-- a dict comprehension whose keys are tuples -/
def dtTurn (tg : FG) (tt : FT) (fk fv : FE) (own : List Nat) (a : Env) (x : AV) (st : Store) : Out (Option (List Key × PyData)) :=
  match tg x (wipeA a own) with
  | none => .stuck
  | some a' => (quiet (tt a' st)).bind fun b s => if b = true then (quiet (fk a' s)).bind fun y s2 => (quiet (fv a' s2)).bind fun z s3 => match y, z with
      | .d k, .d d => match toKeys k with
        | some kk => .ok (some (kk, d)) s3
        | none => .stuck
      | _, _ => .stuck
    else .ok none s
def dtGo (s : Src) (turn : AV → Store → Out (Option (List Key × PyData))) : Nat → Nat → List (List Key × PyData) → Store → Out (List (List Key × PyData))
  | 0, _, acc, st => if s.ended st = true then .ok acc st else .stuck
  | k + 1, i, acc, st => match s.at st i with
    | none => .stuck
    | some x => (turn x st).bind fun o st' => match o with
      | none => dtGo s turn k (i + 1) acc st'
      | some d => if acc.length < sizeLine then dtGo s turn k (i + 1) (putD acc d.1 d.2) st' else .stuck
def nDt (src : FSrc) (tg : FG) (tt : FT) (fk fv : FE) (own : List Nat) : FN := fun a st => (src a st).bind fun s s1 => (dtGo s (dtTurn tg tt fk fv own a) s.len 0 [] s1).bind fun xs s2 => .ok (.d (.t xs)) s2
def tYes' : FT := fun _ st => .ok true st
/-- a raise -/
def sRaise (n : Str) (f : FE) : FS := fun a st => (f a st).bind fun x s => match x with
  | .d d => .exc n d s
  | _ => .stuck

/-! ### configurations -/
inductive Df where
  | e (n : Nat) (F : DF)
  | n (n : Nat) (F : DN)
structure Cfg where
  N : List Str
  sc : Scope
  sets : List Nat
  fns : Str → Option Df
  fnsL : Str → Option Df
  cst : Str → Option Int
  exs : List Str
  sub : Str → Str → Bool
  told : Str → Option (Out AV → Out AV)
  mu : List Str
  retN : Bool
  hot : Bool
  grd : Bool
  exv : Option (Str × Str × PyData)
def Cfg.ix (c : Cfg) (x : Str) : Option Nat :=
  if (c.sc.names.lookup x = some .local ∨ c.sc.names.lookup x = some .cell ∨ c.sc.names.lookup x = some .free) ∧ x ≠ "__debug__" ∧ x ≠ "__classdict__" then c.N.findIdx? (fun y => decide (y = x)) else none
/-- a name that is stored -/
def Cfg.sx (c : Cfg) (x : Str) : Option Nat := match c.ix x with
  | some i => if c.sets.contains i = true ∧ (c.sc.names.lookup x = some .local ∨ c.sc.names.lookup x = some .cell) then some i else none
  | none => none
def Cfg.gl (c : Cfg) (x : Str) : Bool := decide (c.sc.names.lookup x = some .globalImplicit ∧ x ≠ "__debug__" ∧ x ≠ "__name__")
structure Ev where
  e : Cfg → Expr → FE
  t : Cfg → Expr → FT
  n : Cfg → Expr → FN
  i : Cfg → Expr → Expr → FSrc
  s : Cfg → Stmt → FS
def Ev.none : Ev := ⟨fun _ _ => stop, fun _ _ => stop, fun _ _ => stop, fun _ _ _ => stop, fun _ _ => stop⟩
def isStar : Expr → Bool
  | .Starred .. => true
  | _ => false
def args (r : Ev) (c : Cfg) : List Expr → FA
  | [] => aNil
  | e :: es => aCons (r.e c e) (args r c es)
def argsS (r : Ev) (c : Cfg) : List Expr → FA
  | [] => aNil
  | e :: es => match e with
    | .Starred x _ => aStar (r.e c x) (argsS r c es)
    | e => aCons (r.e c e) (argsS r c es)
/-- what makes a new object -/
def isNew : Expr → Bool
  | .List .. => true
  | .ListComp .. => true
  | .DictComp .. => true
  | .Dict .. => true
  | .Call (.Name x _) _ _ _ => decide (x = "list") || decide (x = "dict")
  | _ => false
def binF : Operator → Option (Store → AV → AV → Option AV)
  | .Add => some fAdd
  | .Sub => some fSub
  | .Mult => some fMul
  | .FloorDiv => some fDiv
  | .Mod => some fMod
  | .Pow => some fPow
  | _ => none
def cmpF : CmpOp → Option (Store → AV → AV → Option AV)
  | .Eq => some fEq
  | .NotEq => some fNe
  | .Lt => some fLt
  | .LtE => some fLe
  | .Gt => some fGt
  | .GtE => some fGe
  | .In => some fIn
  | .NotIn => some fNotIn
  | _ => none
def isOp : CmpOp → Option Bool
  | .Is => some false
  | .IsNot => some true
  | _ => none
def cD : Const → Option PyData
  | .none => some .none
  | .bool b => some (.bool b)
  | _ => none
def foldAnd (r : Ev) (c : Cfg) : List Expr → FE
  | [] => stop
  | e :: es => match es with
    | [] => r.e c e
    | _ :: _ => eAnd (r.e c e) (foldAnd r c es)
def foldOr (r : Ev) (c : Cfg) : List Expr → FE
  | [] => stop
  | e :: es => match es with
    | [] => r.e c e
    | _ :: _ => eOr (r.e c e) (foldOr r c es)
def foldAndT (r : Ev) (c : Cfg) : List Expr → FT
  | [] => stop
  | e :: es => match es with
    | [] => r.t c e
    | _ :: _ => tAnd' (r.t c e) (foldAndT r c es)
def foldOrT (r : Ev) (c : Cfg) : List Expr → FT
  | [] => stop
  | e :: es => match es with
    | [] => r.t c e
    | _ :: _ => tOr' (r.t c e) (foldOrT r c es)
/-- a comparison as a value -/
def cmp1 (r : Ev) (c : Cfg) (a : Expr) (op : CmpOp) (b : Expr) : FE := match isOp op with
  | some neg => match b with
    | .Constant k _ _ => match cD k with
      | some d => eOp (fIs d neg) (r.e c a) (eC d)
      | none => stop
    | _ => stop
  | none => match cmpF op with
    | some f => if behindInMarks op b = false then eOp f (r.e c a) (r.e c b) else stop
    | none => stop
def cmp2 (r : Ev) (c : Cfg) (a : Expr) (op op' : CmpOp) (b b' : Expr) : FE := match cmpF op, cmpF op' with
  | some f, some g => if lastMarks [op, op'] [b, b'] = false then eChain f g (r.e c a) (r.e c b) (r.e c b') else stop
  | _, _ => stop
def cmpE (r : Ev) (c : Cfg) (a : Expr) (ops : List CmpOp) (bs : List Expr) : FE := match ops, bs with
  | [op], [b] => cmp1 r c a op b
  | [op, op'], [b, b'] => cmp2 r c a op op' b b'
  | _, _ => stop
def optE (r : Ev) (c : Cfg) : Option Expr → FO
  | none => oNone
  | some e => oSome (r.e c e)
def isOne : Expr → Bool
  | .UnaryOp .USub (.Constant (.int i) _ _) _ => decide (i = 1)
  | _ => false
def plainIx : Expr → Bool
  | .Name .. => true
  | .Constant .. => true
  | .BinOp .. => true
  | .UnaryOp .. => true
  | .Call .. => true
  | .Subscript .. => true
  | _ => false
def tyOfN (x : Str) : Option String :=
  if x = "bool" then some "bool" else if x = "int" then some "int" else if x = "str" then some "str" else if x = "list" then some "list" else if x = "tuple" then some "tuple" else if x = "dict" then some "dict" else none
/-- range(..), seen as its bounds -/
def rgOf (r : Ev) (c : Cfg) : Expr → Option (Env → Store → Out (Int × Int))
  | .Call (.Name x _) es [] _ => if x = "range" ∧ c.gl x = true ∧ es.any isStar = false then match es with
      | [a] => some (rg1 (r.e c a))
      | [a, b] => some (rg2 (r.e c a) (r.e c b))
      | _ => none
    else none
  | _ => none
/-- pairs whose first is a tuple display -/
def tupKey : Expr → Bool
  | .ListComp (.Tuple [.Tuple .., _] _ _) _ _ _ => true
  | .DictComp (.Tuple ..) _ _ _ _ => true
  | _ => false
/-- a question to the exception that is held -/
def excIs (c : Cfg) (n y T : Str) : FE := fun e st => match c.ix y with
  | some i => match e[i]? with
    | some (some (.e _)) => .ok (.d (.bool (c.sub n T))) st
    | _ => .stuck
  | none => .stuck
def excGet (c : Cfg) (d : PyData) (y : Str) : FE := fun e st => match c.ix y with
  | some i => match e[i]? with
    | some (some (.e _)) => .ok (.d d) st
    | _ => .stuck
  | none => .stuck
def isiE (r : Ev) (c : Cfg) (a : Expr) (T : Str) : FE := match tyOfN T with
  | some t => eIsi t (r.e c a)
  | none => match c.exv, a with
    | some (v, n, _), .Name y _ => if y = v ∧ T ∈ c.exs then excIs c n y T else stop
    | _, _ => stop
def bltE (r : Ev) (c : Cfg) (x : Str) (es : List Expr) : FE :=
  if es.isEmpty = true then stop else
  if x = "len" then eCB gLen (args r c es) else if x = "int" then eCB gInt (args r c es) else if x = "abs" then eCB gAbs (args r c es)
  else if x = "max" then (if c.hot = true then stop else eCB gMax (args r c es)) else if x = "min" then (if c.hot = true then stop else eCB gMin (args r c es))
  else if x = "sorted" then (if c.hot = true then stop else eCB gSort (args r c es))
  else if x = "repr" then (if c.grd = true then eCB gRepr (args r c es) else stop)
  else if x = "tuple" then match es with
      | [a] => match rgOf r c a with
        | some rg => if c.hot = true then stop else eTRg rg
        | none => eCB gTuple (args r c es)
      | _ => stop
  else if x = "isinstance" then match es with
      | [a, .Name T _] => if c.gl T = true then isiE r c a T else stop
      | _ => stop
  else stop
def noArgs (a : Arguments) : Bool := a.posonlyargs.isEmpty && a.args.isEmpty && a.vararg.isNone && a.kwonlyargs.isEmpty && a.kw_defaults.isEmpty && a.kwarg.isNone && a.defaults.isEmpty
def Cfg.lam (c : Cfg) (scope : Scope) : Cfg := { c with sc := scope, sets := [], fns := c.fnsL, grd := false, mu := [], retN := false, told := fun _ => none, exv := none }
def callE (r : Ev) (c : Cfg) (x : Str) (es : List Expr) : FE :=
  if c.gl x = false ∨ es.any isStar = true then stop else
  match c.told x with
  | some h => match es with
    | [.Lambda a body scope _] => if noArgs a = true ∧ LamX.lamSB c.sc scope = true ∧ c.hot = false then fun e st => h (r.e (c.lam scope) body e st) else stop
    | _ => stop
  | none =>
  match c.fns x with
  | some (.e n F) => if c.hot = true then stop else eCall (ofN n F) (args r c es)
  | some (.n _ _) => stop
  | none => bltE r c x es
def recv : Expr → Bool
  | .Name .. => true
  | .Subscript .. => true
  | _ => false
def strsOf : List PyData → Option (List Str)
  | [] => some []
  | .str x :: ds => (strsOf ds).map (x :: ·)
  | _ :: _ => none
def joinV (a : Str) (st : Store) (x : AV) : Option AV := match sq st x with
  | some ds => match strsOf ds with
    | some ys => if (ys.map (·.length)).sum + ys.length * a.length ≤ 16777216 then some (.d (.str (Txt.join a ys))) else none
    | none => none
  | none => none
def eJoin (a : Str) (f : FE) : FE := fun e st => (f e st).bind fun x s => Out.lift (joinV a s x) s
def joinOf (o : Expr) (m : Str) (es : List Expr) (apos cpos : Pos) : Option (Str × Expr) := match o, es with
  | .Constant (.str a) _ _, [e] => if m = "join" ∧ isStar e = false ∧ (apos.endLine == cpos.line) = true then some (a, e) else none
  | _, _ => none
/-- lists alone -/
def sLs (f : FE) : FSrc := fun a st => (f a st).bind fun x s => match x with
  | .d (.list xs) => .ok (.xs (xs.map .d)) s
  | .r l => Out.lift (srcOf s (.r l)) s
  | _ => .stuck
/-- a target's names -/
def nmsOf (c : Cfg) : List Expr → Option (List Nat)
  | [] => some []
  | e :: es => match e with
    | .Name x _ => match c.sx x, nmsOf c es with
      | some i, some is => some (i :: is)
      | _, _ => none
    | _ => none
def tgOf (c : Cfg) : Expr → Option (FG × List Nat)
  | .Name x _ => (c.sx x).map fun i => (gNm i, [i])
  | .Tuple es _ _ => if c.hot = true then none else (nmsOf c es).map fun is => (gUn is, is)
  | _ => none
/-- a block's own names -/
def ownOf (N : List Str) (scope : Scope) : List (Str × Nat) := scope.names.filterMap fun y => if y.2 = .local ∨ y.2 = .cell then (N.findIdx? (fun z => decide (z = y.1))).map fun i => (y.1, i) else none
def blkB (N : List Str) (sc scope : Scope) : Bool :=
  decide (scope.kind = .function) && scope.names.all (fun y => decide (scope.names.lookup y.1 = some y.2)) &&
    scope.names.all fun y => !decide (y.2 = .free) || (decide (sc.names.lookup y.1 = some .cell) || decide (sc.names.lookup y.1 = some .free))
def Cfg.inn (c : Cfg) (scope : Scope) : Cfg := { c with sc := relS scope c.sc, sets := (ownOf c.N scope).map (·.2), told := fun _ => none, exv := none }
def ifsT (r : Ev) (c : Cfg) : List Expr → Option FT
  | [] => some tYes'
  | [e] => some (r.t c e)
  | _ => none
def allIn (xs ys : List Nat) : Bool := xs.all fun x => ys.contains x
def isSet : Expr → Bool
  | .Set .. => true
  | _ => false
def methO (r : Ev) (c : Cfg) (o : Expr) (m : Str) (es : List Expr) (apos cpos : Pos) : FE :=
  if es.any isStar = true ∨ es.isEmpty = true ∨ recv o = false ∨ (apos.endLine == cpos.line) = false ∨ 20 < es.length then stop else
  if m = "append" then eM "list" mAppend (r.e c o) (args r c es) else if m = "extend" then eM "list" mExtend (r.e c o) (args r c es)
  else if m = "pop" then eM "list" mPopAt (r.e c o) (args r c es) else if m = "update" then eM "dict" mUpdate (r.e c o) (args r c es) else stop
def tgOfH (c : Cfg) : Expr → Option (FG × List Nat)
  | .Name x _ => (c.sx x).map fun i => (gNm i, [i])
  | .Tuple es _ _ => (nmsOf c es).map fun is => (gUn is, is)
  | _ => none
def lcH (r : Ev) (c : Cfg) (elt tg iter : Expr) (ifs : List Expr) (scope : Scope) : FE :=
  if blkB c.N c.sc scope = true ∧ c.exv.isSome = true ∧ isSet iter = false then match tgOfH (c.inn scope) tg, ifsT r (c.inn scope) ifs with
    | some (g, is), some tt => if allIn is ((ownOf c.N scope).map (·.2)) = true then frzF (nLc (sLs (r.e c iter)) g tt (r.e (c.inn scope) elt) ((ownOf c.N scope).map (·.2))) else stop
    | _, _ => stop
  else stop
def joinA (r : Ev) (c : Cfg) (e : Expr) : FE := match e with
  | .ListComp elt [⟨tg, iter, ifs, 0⟩] scope _ => if c.exv.isSome = true then lcH r c elt tg iter ifs scope else r.e c e
  | _ => r.e c e
def methE (r : Ev) (c : Cfg) (o : Expr) (m : Str) (es : List Expr) (apos cpos : Pos) : FE := match joinOf o m es apos cpos with
  | some (a, e) => eJoin a (joinA r c e)
  | none => methO r c o m es apos cpos
def nameE (c : Cfg) (x : Str) : FE := match c.ix x with
  | some i => eVar i
  | none => if c.gl x = true then match c.cst x with
    | some k => eC (.int k)
    | none => stop
    else stop
def consE : Const → FE
  | .int i => eC (.int i)
  | .bool b => eC (.bool b)
  | .none => eC .none
  | .str x => eC (.str x)
  | _ => stop
def subE (r : Ev) (c : Cfg) (a i : Expr) : FE := match i with
  | .Slice lo hi none _ => eSl (r.e c a) (optE r c lo) (optE r c hi)
  | .Slice none none (some k) _ => if isOne k = true then eRev (r.e c a) else stop
  | i => if plainIx i = true then eOp fSub1 (r.e c a) (r.e c i) else stop
def attE (c : Cfg) (o : Expr) (f : Str) : FE := match o with
  | .Name y _ => match c.exv with
    | some (v, _, d) => if y = v ∧ f = "what" then excGet c d y else stop
    | none => stop
  | _ => stop
def bodyE (r : Ev) (c : Cfg) (e : Expr) : FE := match e with
  | .Name x _ => nameE c x
  | .Constant k _ _ => consE k
  | .UnaryOp op a _ => match op with
    | .USub => eNeg (r.e c a)
    | .Not => eNot (r.e c a)
    | _ => stop
  | .BinOp a op b _ => match binF op with
    | some f => eOp f (r.e c a) (r.e c b)
    | none => stop
  | .BoolOp op es _ => match op with
    | .And => foldAnd r c es
    | .Or => foldOr r c es
  | .Compare a ops bs _ => cmpE r c a ops bs
  | .IfExp t a b _ => eIf (r.t c t) (r.e c a) (r.e c b)
  | .Tuple es _ _ => if es.any isStar = true then stop else eTup (args r c es)
  | .Subscript a i _ => subE r c a i
  | .Call f es ks p => match f, ks with
    | .Name x q, [] => if isNew e = true then frzF (r.n c e) else callE r c x es
    | .Attribute o m q, [] => methE r c o m es q p
    | _, _ => stop
  | .Attribute o f _ => attE c o f
  | .List .. => frzF (r.n c e)
  | .ListComp .. => frzF (r.n c e)
  | .DictComp .. => frzF (r.n c e)
  | .Dict .. => frzF (r.n c e)
  | _ => stop
/-- a test -/
def bodyT (r : Ev) (c : Cfg) (e : Expr) : FT := match e with
  | .BoolOp op es _ => match op with
    | .And => foldAndT r c es
    | .Or => foldOrT r c es
  | .UnaryOp op a _ => match op with
    | .Not => tNot' (r.t c a)
    | _ => stop
  | .Compare a ops bs _ => tOf (cmpE r c a ops bs)
  | .Name .. => tOf (r.e c e)
  | .Call .. => tOf (r.e c e)
  | .Constant .. => tOf (r.e c e)
  | .Subscript .. => tOf (r.e c e)
  | _ => stop
def lcN (r : Ev) (c : Cfg) (elt tg iter : Expr) (ifs : List Expr) (scope : Scope) : FN :=
  if blkB c.N c.sc scope = true ∧ c.hot = false ∧ isSet iter = false then match tgOf (c.inn scope) tg, ifsT r (c.inn scope) ifs with
    | some (g, is), some tt => if allIn is ((ownOf c.N scope).map (·.2)) = true then nLc (r.i c tg iter) g tt (r.e (c.inn scope) elt) ((ownOf c.N scope).map (·.2)) else stop
    | _, _ => stop
  else stop
def dcN (r : Ev) (c : Cfg) (k v tg iter : Expr) (ifs : List Expr) (scope : Scope) : FN :=
  if blkB c.N c.sc scope = true ∧ c.hot = false ∧ isSet iter = false then match tgOf (c.inn scope) tg, ifsT r (c.inn scope) ifs with
    | some (g, is), some tt => if allIn is ((ownOf c.N scope).map (·.2)) = true then match k with
        | .Tuple .. => nDt (r.i c tg iter) g tt (r.e (c.inn scope) k) (r.e (c.inn scope) v) ((ownOf c.N scope).map (·.2))
        | _ => nDc (r.i c tg iter) g tt (r.e (c.inn scope) k) (r.e (c.inn scope) v) ((ownOf c.N scope).map (·.2))
      else stop
    | _, _ => stop
  else stop
def callN (r : Ev) (c : Cfg) (x : Str) (es : List Expr) : FN :=
  if c.gl x = false ∨ c.hot = true ∨ es.any isStar = true then stop else
  match c.fns x with
  | some (.n n F) => nCall (ofN n F) (args r c es)
  | some (.e _ _) => stop
  | none => match es with
    | [a] => if x = "list" then match rgOf r c a with
        | some rg => nLRg rg
        | none => nCB hList (args r c es)
      else if x = "dict" then (if tupKey a = true then nCB hDictT (args r c es) else nCB hDictK (args r c es))
      else stop
    | _ => stop
def bodyN (r : Ev) (c : Cfg) (e : Expr) : FN := match e with
  | .List es _ => nLst (argsS r c es)
  | .ListComp elt gs scope _ => match gs with
    | [⟨tg, iter, ifs, 0⟩] => lcN r c elt tg iter ifs scope
    | _ => stop
  | .DictComp k v gs scope _ => match gs with
    | [⟨tg, iter, ifs, 0⟩] => dcN r c k v tg iter ifs scope
    | _ => stop
  | .Dict ks vs _ => match ks, vs with
    | [], [] => nNew (.d (.t []))
    | _, _ => stop
  | .Call f es ks _ => match f, ks with
    | .Name x _, [] => callN r c x es
    | _, _ => stop
  | _ => stop
def callI (r : Ev) (c : Cfg) (tg : Expr) (x : Str) (es : List Expr) (e : Expr) : FSrc :=
  if x = "range" then (if c.gl x = true ∧ es.any isStar = false then match es with
      | [_] => sRg1 (args r c es)
      | [_, _] => sRg2 (args r c es)
      | [_, _, _] => sRg3 (args r c es)
      | _ => stop
    else stop)
  else if x = "enumerate" then (if c.gl x = true ∧ es.any isStar = false then match tg, es with
      | .Tuple .., [a] => sEnum (r.e c a)
      | _, _ => stop
    else stop)
  else sAny (r.e c e)
def bodyI (r : Ev) (c : Cfg) (tg e : Expr) : FSrc := match e with
  | .Call f es ks _ => match f, ks with
    | .Name x _, [] => callI r c tg x es e
    | _, _ => sAny (r.e c e)
  | _ => sAny (r.e c e)
def isComp : Expr → Bool
  | .ListComp .. => true
  | .DictComp .. => true
  | .SetComp .. => true
  | _ => false
/-- a new object, here or out of a def -/
def isNewC (c : Cfg) (e : Expr) : Bool := isNew e || (match e with
  | .Call (.Name x _) _ _ _ => match c.fns x with
    | some (.n _ _) => true
    | _ => false
  | _ => false)
/-- a new object for a name, or a value -/
def newOr (r : Ev) (c : Cfg) (m : Bool) (e : Expr) : FE := if m = true ∧ isNewC c e = true then thaw (r.n c e) else if isComp e = true then frzF (r.n c e) else r.e c e
def argsW (r : Ev) (c : Cfg) : List (Bool × Expr) → FA
  | [] => aNil
  | (m, e) :: es => aCons (newOr r c m e) (argsW r c es)
def muts (c : Cfg) : List Expr → List Bool
  | [] => []
  | e :: es => match e with
    | .Name x _ => decide (x ∈ c.mu) :: muts c es
    | _ => false :: muts c es
/-- how a parallel assignment to names is stored: from the right, through a tuple; not told -/
def swpNames (sc : Scope) (ts : List Expr) : List Str := ts.filterMap fun
  | .Name id pos => if sc.names.lookup id == some .local && pos.line == (ts.head?.map (·.pos.line)).getD 0 then some id else none
  | _ => none
def swpB (sc : Scope) (ts vs : List Expr) : Option Bool :=
  if ((swpNames sc ts).length != ts.length || (swpNames sc ts).eraseDups.length != (swpNames sc ts).length) = true then some false
  else if vs.all (foldedForSure 8) = true then some false
  else if vs.all (constantsAlone 8) = true then none
  else some true
def parS (r : Ev) (c : Cfg) (ts vs : List Expr) : FS :=
  if c.hot = true ∨ vs.any isStar = true ∨ ts.length ≠ vs.length ∨ ¬ (ts.length = 2 ∨ ts.length = 3) then stop else
  match nmsOf c ts, swpB c.sc ts vs with
  | some is, some b => if is.Nodup then sPar is (argsW r c ((muts c ts).zip vs)) else stop
  | _, _ => stop
def blk (r : Ev) (c : Cfg) : List Stmt → FS
  | [] => sNil
  | s :: ss => match ss with
    | [] => r.s c s
    | _ :: _ => sSeq (r.s c s) (blk r c ss)
def isSetC : Expr → Bool
  | .SetComp .. => true
  | _ => false
def asgS (r : Ev) (c : Cfg) (t e : Expr) : FS := match t with
  | .Name x _ => match c.sx x with
    | some i => if isSetC e = true then stop else sAsg (gNm i) (newOr r c (decide (x ∈ c.mu)) e)
    | none => stop
  | .Tuple ts k p => match e with
    | .Tuple vs _ _ => parS r c ts vs
    | _ => match tgOf c (.Tuple ts k p) with
      | some (g, _) => if isComp e = true then stop else sAsg g (r.e c e)
      | none => stop
  | .Subscript o i _ => if plainIx i = true ∧ isComp e = false then sPutL (r.e c o) (r.e c i) (r.e c e) else stop
  | _ => stop
def raiS (r : Ev) (c : Cfg) (e : Expr) : FS := match e with
  | .Call (.Name x _) [a] [] _ => if x ∈ c.exs ∧ c.gl x = true ∧ c.hot = false ∧ isStar a = false then sRaise x (r.e c a) else stop
  | _ => stop
def bodyS (r : Ev) (c : Cfg) (s : Stmt) : FS := match s with
  | .Pass _ => sNil
  | .Break _ => sBk
  | .Continue _ => sCt
  | .Expr e _ => if isComp e = true then stop else sDrop (r.e c e)
  | .Return o _ => match o with
    | none => sRetN
    | some e => sRet (newOr r c c.retN e)
  | .If t a b _ => sIf (r.t c t) (blk r c a) (blk r c b)
  | .Assign ts e _ => match ts with
    | [t] => asgS r c t e
    | _ => stop
  | .For tg iter body els _ => match els with
    | [] => match tgOf c tg with
      | some (g, _) => if c.hot = true ∨ isSet iter = true then stop else sFor (r.i c tg iter) g (blk r c body)
      | none => stop
    | _ => stop
  | .While t body els _ => match els with
    | [] => sWhile (2 ^ 20) (r.t c t) (blk r c body)
    | _ => stop
  | .Raise o k _ => match o, k with
    | some e, none => raiS r c e
    | _, _ => stop
  | _ => stop
def ev : Nat → Ev
  | 0 => Ev.none
  | n + 1 => let r := ev n; ⟨bodyE r, bodyT r, bodyN r, bodyI r, bodyS r⟩

/-! ### defs -/
def parsOf (a : Arguments) : List Str := a.args.map (·.arg)
/-- what a def gives: its own cells are given away -/
def endE (n : Nat) : Out Fl → Out AV
  | .ok (.nx _) st => .ok (.d .none) (st.take n)
  | .ok (.rt (.r l)) st => if l < n then .ok (.r l) (st.take n) else match st[l]? with
    | some c => .ok c.frz (st.take n)
    | none => .stuck
  | .ok (.rt v) st => .ok v (st.take n)
  | .ok _ _ => .stuck
  | .exc n' x st => .exc n' x (st.take n)
  | .stuck => .stuck
def endN (n : Nat) : Out Fl → Out Cell
  | .ok (.rt (.r l)) st => if l < n then .stuck else match st[l]? with
    | some c => .ok c (st.take n)
    | none => .stuck
  | .ok _ _ => .stuck
  | .exc n' x st => .exc n' x (st.take n)
  | .stuck => .stuck
def startA (N : List Str) (xs : List AV) : Env := xs.map some ++ List.replicate (N.length - xs.length) none
def runE (f : FS) (N : List Str) : DF := fun xs st => endE st.length (f (startA N xs) st)
def runN (f : FS) (N : List Str) : DN := fun xs st => endN st.length (f (startA N xs) st)
end NL
end
section
set_option Elab.async false
set_option linter.all false
set_option maxRecDepth 100000
set_option maxHeartbeats 4000000
/-! Defs: what a def promises, by what its body computes. -/
namespace NL
open PySem PySem.Spec PyProof.Rows L2

section
variable {γ : Gc} {w w' : Wd} {st st' : Store} {H H' : Hp}
theorem ConV.less (g : Grow w H w') : ∀ {x : AV} {v : V}, (∀ l, x = .r l → l < w.al.length) → ConV γ.K w' H' x v → ConV γ.K w H' x v
  | .d _, _, _, h => FD.less g.rh h
  | .r l, _, n, ⟨a, h, q⟩ => by
    refine ⟨a, ?_, q⟩
    obtain ⟨t, e⟩ := g.al
    rw [← e, List.getElem?_append_left (n l rfl)] at h
    exact h
  | .c d, _, _, ⟨a, h1, h2, h3⟩ => ⟨a, h1, fun z => h2 (g.rh _ z), DcAt.less g.rh h3⟩
  | .z _, _, _, ⟨a, h1, h2⟩ => ⟨a, h1, h2.elim (fun q => .inl ⟨fun z => q.1 (g.rh _ z), q.2⟩) .inr⟩
  | .e _, _, _, h => h.trans (by rw [g.xa])
theorem ExcR.less (g : Grow w H w') {n : Str} {x : PyData} {cls : Value} {d : Option Addr} (h : ExcR γ w' H' n x cls d) : ExcR γ w H' n x cls d :=
  ⟨h.1, let ⟨dd, v, h1, h2, h3⟩ := h.2; ⟨dd, v, h1, h2, FD.less g.rh h3⟩⟩
theorem startA_con {N : List Str} {xs : List AV} {vs : List V} (h : ConVs γ.K w H xs vs) : ConE γ.K w H (startA N xs) (L2.start N vs) := by
  have hl := Paired.length h
  refine ⟨by unfold startA L2.start; simp [hl], fun i v hv => ?_⟩
  unfold startA at hv
  unfold L2.start
  by_cases hi : i < xs.length
  · rw [List.getElem?_append_left (by simpa using hi), List.getElem?_map] at hv
    obtain ⟨x, hx, e⟩ := Option.map_eq_some_iff.mp hv
    cases e
    obtain ⟨u, hu, r⟩ : ∃ u, vs[i]? = some u ∧ ConV γ.K w H v u := by
      clear hv hi hl
      induction h generalizing i with
      | nil => simp at hx
      | cons q t ih =>
        cases i with
        | zero => simp at hx; subst hx; exact ⟨_, rfl, q⟩
        | succ i => obtain ⟨u, h1, h2⟩ := ih i (by simpa using hx); exact ⟨u, by simpa using h1, h2⟩
    refine ⟨u, ?_, r⟩
    rw [List.getElem?_append_left (by rw [List.length_map]; exact (List.getElem?_eq_some_iff.mp hu).1), List.getElem?_map, hu]; rfl
  · rw [List.getElem?_append_right (by simpa using hi), List.getElem?_replicate] at hv
    split at hv <;> cases hv
/-- the end of a def that gives a value -/
theorem end_e {E : XK} {Q : VK} {o : Out Fl} (c : ConS γ w st H) (h : Good γ w H E (RV γ w) Q (endE st.length o)) : GoodS γ w H E { nx := fun _ H' => Q .non H', rt := Q } o := by
  have hlen := c.len
  cases o with
  | stuck => exact h
  | exc n x s => exact fun w' cls d H' g e c' r => h cls d H' e (c.cut g c') (r.less g)
  | ok f s =>
    cases f with
    | nx a => exact fun w' σ' H' g e c' ce => h .non H' e (c.cut g c') FD.non
    | bk a => exact h.elim
    | ct a => exact h.elim
    | rt v =>
      intro w' u H' g e c' r
      have plain : (∀ l, v ≠ .r l) → Good γ w H E (RV γ w) Q (.ok v (s.take st.length)) → Q u H' := fun n q => q u H' e (c.cut g c') (ConV.less (γ := γ) g (fun l z => absurd z (n l)) r)
      cases v with
      | d x => exact plain (fun l z => by cases z) h
      | c x => exact plain (fun l z => by cases z) h
      | z x => exact plain (fun l z => by cases z) h
      | e x => exact plain (fun l z => by cases z) h
      | r l =>
        simp only [endE] at h
        split at h
        · rename_i hl
          exact h u H' e (c.cut g c') (ConV.less (γ := γ) g (fun m z => by cases z; rw [hlen]; exact hl) r)
        · rename_i hl
          split at h
          · rename_i cl ec
            obtain ⟨a, ha, rfl⟩ := r
            exact h (.ref a) H' e (c.cut g c') (frz_at c g c' (by omega) ha ec)
          · exact h.elim
theorem end_n {E : XK} {Q : VK} {o : Out Fl} (c : ConS γ w st H) (h : GoodN γ w H E Q (endN st.length o)) : GoodS γ w H E { nx := fun _ H' => Q .non H', rt := Q } o := by
  have hlen := c.len
  cases o with
  | stuck => exact h
  | exc n x s => exact fun w' cls d H' g e c' r => h cls d H' e (c.cut g c') (r.less g)
  | ok f s =>
    cases f with
    | nx a => exact h.elim
    | bk a => exact h.elim
    | ct a => exact h.elim
    | rt v =>
      cases v with
      | d x => exact h.elim
      | c x => exact h.elim
      | z x => exact h.elim
      | e x => exact h.elim
      | r l =>
        intro w' u H' g e c' r
        simp only [endN] at h
        split at h
        · exact h.elim
        · rename_i hl
          split at h
          · rename_i cl ec
            obtain ⟨a, ha, rfl⟩ := r
            have na : ¬ a ∈ w.al := fun hm => by
              obtain ⟨i, hi⟩ := List.mem_iff_getElem?.mp hm
              have h3 := pre_get g.al hi
              have hlt := (List.getElem?_eq_some_iff.mp hi).1
              rw [c.len] at hlt
              obtain ⟨p1, e1⟩ := List.getElem?_eq_some_iff.mp ha
              obtain ⟨p2, e2⟩ := List.getElem?_eq_some_iff.mp h3
              have := (List.getElem_inj c'.nd).mp (e1.trans e2.symm)
              omega
            have nul : Nul H a := (g.nal a (List.mem_of_getElem? ha)).elim (fun z => absurd z na) id
            have sub : ∀ b, (w.add a).rh b → w'.rh b := fun b hb => hb.elim (g.rh b) fun z => by rw [z]; exact c'.sub a (List.mem_of_getElem? ha)
            have c1 := c.cut g c'
            have hst : st.length ≤ s.length := by
              rw [← c.len, ← c'.len]
              exact g.al.length_le
            refine h a H' e (grow_add w nul) ⟨?_, ?_, fun b hb => ?_, fun b hb => c'.trk b (sub b hb), fun m b cm h1 h2 => ?_, c'.glob, c.xa⟩
            · show (w.al ++ [a]).length = _
              rw [List.length_append, List.length_append, List.length_take, c.len]
              simp
              omega
            · show (w.al ++ [a]).Nodup
              rw [List.nodup_append]
              exact ⟨c.nd, by simp, fun x hx y hy z => na (by rw [List.mem_singleton.mp hy] at z; exact z ▸ hx)⟩
            · rcases List.mem_append.mp hb with hb | hb
              · exact .inl (c.sub b hb)
              · exact .inr (List.mem_singleton.mp hb)
            · have h1 : (w.al ++ [a])[m]? = some b := h1
              have htl : (s.take st.length).length = st.length := by rw [List.length_take]; omega
              by_cases hm : m < st.length
              · rw [List.getElem?_append_left (by omega)] at h1
                rw [List.getElem?_append_left (by omega), List.getElem?_take_of_lt hm] at h2
                exact CellAt.less sub (c'.cell m b cm (pre_get g.al h1) h2)
              · rw [List.getElem?_append_right (by omega)] at h1 h2
                rw [hlen] at h1
                rw [htl] at h2
                cases hd : m - st.length with
                | zero =>
                  rw [hd] at h1 h2
                  cases h1; cases h2
                  exact CellAt.less sub (c'.cell l a cl ha ec)
                | succ n => rw [hd] at h1; cases h1
          · exact h.elim
end
/-- a promise, by what is computed -/
def spD (γ : Gc) (d : Df) : Sp := match d with
  | Df.e k F => spF γ k F
  | Df.n k F => spN γ k F
def Df.ar (d : Df) : Nat := match d with
  | Df.e k _ => k
  | Df.n k _ => k
def runD (rn : Bool) (n : Nat) (f : FS) (N : List Str) : Df := if rn = true then .n n (runN f N) else .e n (runE f N)
theorem sp_run {γ : Gc} {rn : Bool} {n : Nat} {f : FS} {N : List Str} {t : TS} {vs : List V} {H : Hp} {Q : VK} {E : XK} (h : spD γ (runD rn n f N) vs H Q E) (r : RdS γ E f t) : t { nx := fun _ H' => Q .non H', rt := Q } (L2.start N vs) H := by
  unfold runD at h
  split at h
  · obtain ⟨w, st, xs, hl, c, cv, q⟩ := h
    exact r w st (startA N xs) _ H _ c (startA_con cv) (end_n c q)
  · obtain ⟨w, st, xs, hl, c, cv, q⟩ := h
    exact r w st (startA N xs) _ H _ c (startA_con cv) (end_e c q)
theorem sp_len {γ : Gc} {d : Df} {vs : List V} {H : Hp} {Q : VK} {E : XK} (h : spD γ d vs H Q E) : vs.length = d.ar := by
  cases d with
  | e n F => obtain ⟨w, st, xs, hl, c, cv, q⟩ := h; exact (Paired.length cv).symm.trans hl
  | n n F => obtain ⟨w, st, xs, hl, c, cv, q⟩ := h; exact (Paired.length cv).symm.trans hl
/-! ### promises that may ask for the guards -/
structure FnG (P : Program) (w : World) (K : PySem.W.Frag) (mg : Str → Option Value) (base : Heap) (gr : Bool) (k : Nat) (f : Addr) (fd : FuncData) (ps : List Str) (sp : Sp) : Prop where
  len : ∀ vs H Q E, sp vs H Q E → vs.length = ps.length
  run : ∀ (A : Around) (outer : List PySem.Env) (s : Shared) (H : Hp) (args : Args) (us : List Value) (vs : List V) (Q : VK) (E : XK), (gr = true → A.guards = some []) → Room k A → Env0 P w K mg base A outer s H → BindsTo s fd args (ps.zip us) → Vals vs us → sp vs H Q E →
    codeAny (model P w) A (.call (.ref f) args) (CR (L2N.CX P w) outer P w H s Q E) s
theorem guards_deeper (A : Around) (env : PySem.Env) : (A.deeper env).guards = A.guards := rfl
theorem fn_ofG {P : Program} {w : World} {K : PySem.W.Frag} {mg : Str → Option Value} {base : Heap} {gr : Bool} {k : Nat} {f : Addr} {name qual : Str} {params : Arguments} {body : List Stmt} {scope : Scope} {dV kV doc pm cdv ct oc : Value} {an od : Option Addr}
    {osl : Array (Option Value)} {N ps : List Str} {sp : Sp} (lk : K.lookup f = some ⟨oc, od, .func (PySem.W.fnOf name qual params body scope dV kV doc pm an cdv ct), osl⟩) (hcd : PySem.W.codeIn K cdv qual = true) (S : FnScope N ps scope)
    (len : ∀ vs H Q E, sp vs H Q E → vs.length = ps.length)
    (hbody : ∀ (A : Around) (outer : List PySem.Env) (s : Shared) (H : Hp) (vs : List V) (Q : VK) (E : XK), (gr = true → (A.deeper (envOfC qual scope s.heap.objs.size f cdv)).guards = some []) → Room k (A.deeper (envOfC qual scope s.heap.objs.size f cdv)) → sp vs H Q E →
      ∃ t, PSs (cxOf (L2N.CX P w) P w K mg base N qual scope f cdv A outer s H E) body t ∧ t { nx := fun _ H' => Q .non H', rt := Q } (L2.start N vs) H) :
    FnG P w K mg base gr (k + 1) f (PySem.W.fnOf name qual params body scope dV kV doc pm an cdv ct) ps sp := by
  refine ⟨len, fun A outer s H args us vs Q E hgr hr e0 hb r hsp => ?_⟩
  exact LamX.run_ofS lk hcd S hr e0 hb r (len _ _ _ _ hsp) fun hr' => hbody A outer s H vs Q E (fun z => hgr z) hr' hsp
section
variable {X : Cx} {gr : Bool} {k : Nat} {f : Addr} {fd : FuncData} {ps : List Str} {sp : Sp} {E : XK} {x : Str} {p pos : Pos} {e : Expr} {es : List Expr} {t : TA}
theorem run_fnG {pins : List (Addr × Obj)} {σ : L2.St} {H : Hp} {s : Shared} {Q : VK} {us : List Value} {vs : List V} (F : FnG X.prog X.w X.K X.mg X.base gr k f fd ps sp) (hg : gr = true → X.A.guards = some []) (hr : Room k X.A) (hb : L2.Binds X.K fd ps []) (hx : Passes (L2N.CX X.prog X.w) X E)
    (I : Inv X pins σ H s) (r : Vals vs us) (h : sp (vs ++ []) H Q E) : wpAny (model X.prog X.w) X.A (call (.ref f) us) (EP X pins σ Q) X.xe s := by
  have r2 : Vals (vs ++ []) (us ++ []) := r.append .nil
  have hl : (us ++ ([] : List Value)).length = ps.length := (Paired.length r2).symm.trans (F.len _ _ _ _ h)
  refine wpAny_call (codeAny_mono (F.run X.A X.stack s H ⟨us, []⟩ (us ++ []) (vs ++ []) Q E hg hr I.env0 (hb s us I.kIn hl) r2 h) fun res s' hq => ?_)
  match res, hq with
  | .error er, hq => exact hx pins σ H s er s' I hq
  | .ok (.ret u), hq => exact I.after hq
  | .ok .next, hq => exact False.elim hq
  | .ok .brk, hq => exact False.elim hq
  | .ok .cont, hq => exact False.elim hq
theorem pe_callG (F : FnG X.prog X.w X.K X.mg X.base gr k f fd ps sp) (hgr : gr = true → X.A.guards = some []) (hr : Room k X.A) (hg : Gl X x) (hm : X.mg x = some (.ref f)) (hk : PySem.W.keepIn X.K (.ref f) = true) (hb : L2.Binds X.K fd ps []) (hx : Passes (L2N.CX X.prog X.w) X E)
    (ha : PA X (e :: es) t) (hdb : (x == ("__debug__" : Str)) = false) (he : starEach (e :: es) X.env = (false, eval e X.env) :: starEach es X.env) (hpl : (backTo pos (starEach es X.env)).any (·.1) = false) :
    PE X (.Call (.Name x p) (e :: es) [] pos) (tCall sp [] E t) := by
  constructor
  intro pins s σ H Q I h
  apply wpAny_Call_Name_kw
  apply ld_glob I hg hm _ hdb
  refine PySem.W.callWith_K (h₀ := X.base) I.ok.mod.kin hk (thn (ha.run pos pins s σ H _ I h) fun us s1 ⟨vs, H1, I1, r, q⟩ => ⟨I1.kIn, ?_⟩) he hpl
  exact run_fnG F hgr hr hb hx I1 r q
theorem pe_callG0 (F : FnG X.prog X.w X.K X.mg X.base gr k f fd ps sp) (hgr : gr = true → X.A.guards = some []) (hr : Room k X.A) (hg : Gl X x) (hm : X.mg x = some (.ref f)) (hk : PySem.W.keepIn X.K (.ref f) = true) (hb : L2.Binds X.K fd ps []) (hx : Passes (L2N.CX X.prog X.w) X E)
    (hdb : (x == ("__debug__" : Str)) = false) : PE X (.Call (.Name x p) [] [] pos) (tCall sp [] E tNil) := by
  constructor
  intro pins s σ H Q I h
  apply wpAny_Call_Name_kw
  apply ld_glob I hg hm _ hdb
  exact PySem.W.callWith_K0 I.kIn hk (run_fnG (us := []) F hgr hr hb hx I .nil h)
end
/-- a def that may be called by its name -/
structure CalG (P : Program) (w : World) (K : PySem.W.Frag) (mg : Str → Option Value) (base : Heap) (γ : Gc) (gr : Bool) (k : Nat) (x : Str) (d : Df) : Prop where
  ex : ∃ (f : Addr) (fd : FuncData) (ps : List Str), ps.length = d.ar ∧ FnG P w K mg base gr k f fd ps (spD γ d) ∧ mg x = some (.ref f) ∧ PySem.W.keepIn K (.ref f) = true ∧ L2.Binds K fd ps []
theorem FnG.mono {P : Program} {w : World} {K : PySem.W.Frag} {mg : Str → Option Value} {base : Heap} {gr : Bool} {j k : Nat} {f : Addr} {fd : FuncData} {ps : List Str} {sp : Sp} (F : FnG P w K mg base gr j f fd ps sp) (h : j ≤ k) : FnG P w K mg base gr k f fd ps sp :=
  ⟨F.len, fun A outer s H args us vs Q E hg hr => F.run A outer s H args us vs Q E hg (hr.mono h)⟩
theorem CalG.mono {P : Program} {w : World} {K : PySem.W.Frag} {mg : Str → Option Value} {base : Heap} {γ : Gc} {gr : Bool} {j k : Nat} {x : Str} {d : Df} (c : CalG P w K mg base γ gr j x d) (h : j ≤ k) : CalG P w K mg base γ gr k x d :=
  let ⟨f, fd, ps, h1, F, h2, h3, h4⟩ := c.ex
  ⟨f, fd, ps, h1, F.mono h, h2, h3, h4⟩
end NL
end
section
set_option Elab.async false
set_option linter.all false
set_option maxRecDepth 100000
set_option maxHeartbeats 4000000
/-! Rules that the hand layer lacks: a tuple turned about, enumerate(tuple). -/
namespace PySem
open Sem (wp)
/-! ### enumerate(v) -/
theorem nl_meets_enum {v : Value} {o : Obj} {H : Heap → Prop} (B : Begins v o H) :
    Meets (Builtin.«enumerate.__new__» ⟨[.type "enumerate", v], []⟩) (fun _ R s => H s.heap ∧
      R (.ok (.ret (.ref (s.heap.push o).objs.size))) { s with heap := (s.heap.push o).push { cls := .type "enumerate", data := .fields #[.none, .bool false, .ref s.heap.objs.size, rawInt 0, .none, .none] } }) :=
  .of_wp fun prog w A R s hyp => by
    obtain ⟨hp, g, d, tk, os⟩ := s
    obtain ⟨h1, hyp⟩ := hyp
    have hsub := sub_enumerate
    have q1 : ∀ {A' : Around} {E : Value → Shared → Prop} {Q : Value → Shared → Prop}, Q (.ref hp.objs.size) ⟨hp.push o, g, d, tk, os⟩ → wpAny (model prog w) A' (pyIter v) Q E ⟨hp, g, d, tk, os⟩ := fun q =>
      B.iter prog w _ _ ⟨hp, g, d, tk, os⟩ _ h1 q
    wp_walk using q1
    refine wpAny_stack_any fun stk => wpAny_pure ?_
    split
    · rename_i c _ _ _ _ _
      cases (c == Value.type "enumerate") <;> (wp_walk using q1; exact ⟨_, rfl, hyp⟩)
    · wp_walk using q1
      exact ⟨_, rfl, hyp⟩
theorem nl_call_enum {prog : Program} {w : World} {A : Around} {E : Value → Shared → Prop} {s : Shared} {v : Value} {o : Obj} {H : Heap → Prop} {Q : Value → Shared → Prop} (B : Begins v o H) (h1 : H s.heap)
    (h : ∀ h', IsEnum h' (s.heap.objs.size + 1) s.heap.objs.size 0 .none → h'.get? s.heap.objs.size = some o → (∀ b u, s.heap.get? b = some u → h'.get? b = some u) → Q (.ref (s.heap.objs.size + 1)) { s with heap := h' }) :
    wpAny (model prog w) A (call (.type "enumerate") [v]) Q E s := by
  have hz : (s.heap.push o).objs.size = s.heap.objs.size + 1 := Heap.size_push ..
  have he : IsEnum ((s.heap.push o).push { cls := .type "enumerate", data := .fields #[.none, .bool false, .ref s.heap.objs.size, rawInt 0, .none, .none] }) (s.heap.objs.size + 1) s.heap.objs.size 0 .none := by
    have q := Heap.get?_push_size (s.heap.push o) (o := { cls := .type "enumerate", data := .fields #[.none, .bool false, .ref s.heap.objs.size, rawInt 0, .none, .none] }) rfl
    rw [hz] at q
    exact q
  refine callType_new F.called_enumerate (by decide) (F.typeCall_enumerate_1 _) (F.newCall_enumerate_1 _) (fun obj => F.args_object_init_2 obj _) F.entry_enumerate_new (nl_meets_enum B) ⟨h1, ?_⟩
  rw [hz]
  exact ⟨⟨_, he, rfl⟩, h _ he (Heap.get?_push_of_some _ (Heap.get?_push_size _ B.free)) fun b u x => Heap.get?_push_of_some _ (Heap.get?_push_of_some _ x)⟩
end PySem
namespace NL
open PySem PySem.Spec PyProof.Rows L2

/-! ### enumerate(tuple) -/
def ItT (K : PySem.W.Frag) (a : Addr) : It where
  go i H := ∃ (xs : List V) (x : V), SqT K H a xs ∧ xs[i]? = some x
  yld i H v H' := ∃ T x, v = .ref T ∧ H T = none ∧ H' = upd H T (.tup [.int (i : Nat), x]) ∧ ∀ xs, SqT K H a xs → xs[i]? = some x
  stop i H := ∃ xs : List V, SqT K H a xs ∧ xs.length ≤ i
theorem turn_enumT {P : Program} {w : World} {K : PySem.W.Frag} {elts : List Expr} {kk : Nat} {tpos : Pos} (a e it : Addr) :
    Turn P w K (.Tuple elts kk tpos) (ItT K a) [e, it] e (fun i h => (∃ old, IsEnum h e it ((i : Nat) : Int) old) ∧ h.IsTupleIter it a i ∧ e ≠ it) where
  mem := by simp
  obj := fun i h st b hb => by
    obtain ⟨⟨old, he⟩, ⟨o, ho, hc, hd⟩, _⟩ := st
    rcases (show b = e ∨ b = it by simpa using hb) with z | z
    · subst z; exact ⟨_, he, fun v q => nomatch q⟩
    · subst z; exact ⟨o, ho, fun v q => by rw [hd] at q; cases q⟩
  keep := fun i h h' st k => ⟨st.1.imp fun old he => k e (by simp) _ he, st.2.1.at fun o q => k it (by simp) o q, st.2.2⟩
  item := by
    intro X hP hw hK hc i pins s σ H E I hf st hg
    subst hP hw hK
    obtain ⟨⟨old, he⟩, hit, hne⟩ := st
    obtain ⟨xs, x, hq, hx⟩ := hg
    obtain ⟨its, rv, p, hz⟩ := I.tuple hq
    obtain ⟨u, hu, ru⟩ := rv.get hx
    have hel : e < s.heap.objs.size := Heap.lt_size he
    have hil : it < s.heap.objs.size := by obtain ⟨_, q, _⟩ := hit; exact Heap.lt_size q
    have hai : a ≠ it := fun z => by
      obtain ⟨o1, q1, c1, _⟩ := hit
      obtain ⟨o2, q2, c2, _⟩ := p
      rw [z, q1] at q2
      cases q2
      rw [c1] at c2
      exact absurd c2 (by simp)
    have hae : a ≠ e := fun z => by
      obtain ⟨o2, q2, c2, _⟩ := p
      rw [z, show s.heap.get? e = some _ from he] at q2
      cases q2
      exact absurd c2 (by simp)
    have D := Draws.tuple (prog := X.prog) (w := X.w) (A := X.A.in1) (I.ok.hd hc) it a hai its.toArray
    have hlt : i < its.toArray.size := by
      rw [List.size_toArray]
      exact (List.getElem?_eq_some_iff.mp hu).1
    refine wpAny_pyNext_enum_itemD D he ⟨hit, p⟩ hlt hne (by simp [hne, hae.symm]) fun y h' tk hy ho hst hT hsz hk => ?_
    have hyu : y = u := by
      rw [List.getElem?_toArray, hu] at hy
      exact (Option.some.inj hy).symm
    subst hyu
    refine ⟨_, rfl, wpAny_letOwnedTupleGo_enum (s := { s with heap := h', toks := tk + 1 }) ho fun h'' he' sb => ?_⟩
    have hT2 : h''.get? s.heap.objs.size = some { cls := .type "tuple", data := .seq #[.int i tk, y] } := (sb.2 _ (Nat.ne_of_gt hel)).trans hT
    have new : ObjOk X.prog X.w (upd H s.heap.objs.size (.tup [.int (i : Nat), x])) h'' s.heap.objs.size (.tup [.int (i : Nat), x]) :=
      ⟨by show 2 ≤ sizeLine; decide, [.int i tk, y], .cons ⟨_, rfl⟩ (.cons ru .nil), ⟨_, hT2, rfl, _, rfl⟩⟩
    have I1 : Inv X pins σ (upd H s.heap.objs.size (.tup [.int (i : Nat), x])) { s with heap := h'', toks := tk + 1 } :=
      I.turnedNew (ch := [e, it]) (fun b ob hb q => (sb.2 b (fun z => hb (by simp [z]))).trans (hk b ob (fun z => hb (by simp [z])) (fun z => hb (by simp [z])) q)) hf (Nat.le_refl _) new
    refine ⟨.ref s.heap.objs.size, _, I1, rfl, ⟨_, x, rfl, I.hok.fresh (Nat.le_refl _), rfl, fun ys hy => by rw [I.tuple_inj hy hq]; exact hx⟩, ⟨⟨y, ?_⟩, hst.1.at fun o q => (sb.2 it (Ne.symm hne)).trans q, hne⟩, fun b hb => ?_⟩
    · rw [show ((i + 1 : Nat) : Int) = (i : Int) + 1 by omega]
      exact he'
    · have hb' : b < s.heap.objs.size := by
        rcases (show b = e ∨ b = it by simpa using hb) with z | z
        · rw [z]; exact hel
        · rw [z]; exact hil
      rw [upd_ne (Nat.ne_of_lt hb')]
      exact (hf b hb).1
  done := by
    intro X hP hw hK hc i pins s σ H E I hf st hg
    subst hP hw hK
    obtain ⟨⟨old, he⟩, hit, hne⟩ := st
    obtain ⟨xs, hq, hx⟩ := hg
    obtain ⟨its, rv, p, hz⟩ := I.tuple hq
    obtain ⟨f0, f1, f2, f3, f4, f5⟩ := hf it (by simp)
    have hl := rv.length
    have hTy : s.TypeIs (.ref e) "enumerate" := ⟨_, he, rfl⟩
    unfold pyNext
    refine wpAny_bind (wpAny_attempt (wpAny_callSpecial?_slot (name := Str.ofString "__next__") hTy F.slot_enumerate_next (wpAny_call_entry F.slot_enumerate_next hTy F.entry_enumerate_next ?_ (F.args_enumerate_next_1 _))))
    show wpAny _ _ (field (.ref e) 2 >>= _) _ _ _
    refine wpAny_bind (wpAny_field he rfl (x := .ref it) rfl ?_)
    refine wpAny_bind (wpAny_nextOf_tuple_end (A := X.A.in1) (I.ok.hd hc) hit p (by simp; omega) fun h' x he' hx' => ?_)
    obtain ⟨o, ho, hcs⟩ := hx'
    refine wpAny_bind (wpAny_isInstance (T := "StopIteration") (b := true) ⟨o, ho, hcs⟩ isSubtype_stop ?_)
    exact wpAny_pure ⟨rfl, I.turned (t' := s.toks) (fun b o hb q => he' b o hb q) f0 f1 f3 f4 f5⟩
  self := fun A i s Q E st h => wpAny_pyIter_enum st.1.choose_spec h
def iEnumT (K : PySem.W.Frag) (ta : TA) : TI := fun σ H R => ta σ H fun vs H1 => ∃ a xs, vs = [.ref a] ∧ SqT K H1 a xs ∧ R (ItT K a) H1
theorem pi_enumT {X : Cx} {e : Expr} {ta : TA} {p pos tpos : Pos} {elts : List Expr} {kk : Nat} (hg : Gl X "enumerate") (hm : X.mg "enumerate" = none) (ha : PA X [e] ta) (hs : starEach [e] X.env = [(false, eval e X.env)]) :
    PI X (.Tuple elts kk tpos) (.Call (.Name "enumerate" p) [e] [] pos) (iEnumT X.K ta) := by
  constructor
  intro pins s σ H R I h
  refine Call_ (ld_blt I hg hm PyProof.Rows.Boot.«enumerate» (PyProof.Rows.callWith_type1 (thn (ha.run pos pins s σ H _ I h) fun us s1 ⟨vs, H1, I1, r1, q1⟩ => ?_) hs rfl))
  obtain ⟨a, xs, rfl, hq, q⟩ := q1
  obtain ⟨u, rfl, r⟩ := Vals.one r1
  cases r
  obtain ⟨its, rv, p', hz⟩ := I1.tuple hq
  refine nl_call_enum (begins_tuple a its.toArray) p' fun h' he hit hk => wpAny_pyIter_enum he ?_
  have I2 : Inv X pins σ H1 { s1 with heap := h' } := I1.kept (t' := s1.toks) hk
  refine ⟨s1.heap.objs.size + 1, [s1.heap.objs.size + 1, s1.heap.objs.size], _, _, H1, rfl, I2, turn_enumT a (s1.heap.objs.size + 1) s1.heap.objs.size, ⟨⟨.none, he⟩, ⟨_, hit, rfl, rfl⟩, Nat.succ_ne_self _⟩, fun b hb => ?_, q⟩
  have hle : s1.heap.objs.size ≤ b := by
    rcases (show b = s1.heap.objs.size + 1 ∨ b = s1.heap.objs.size by simpa using hb) with z | z
    · rw [z]; exact Nat.le_add_right _ _
    · rw [z]; exact Nat.le_refl _
  exact I1.fpOk hle (I1.hok.fresh hle)

/-! ### t[::-1] -/
theorem rev_applied {prog : Program} {w : World} {A : Around} {E : Value → Shared → Prop} {s : Shared} {sl : Addr} {vs : Value} {n : Nat} {Q : Int × Int × Nat → Shared → Prop} (hs : s.heap.IsSliceOf sl .none .none vs) (ps : IsPart vs (some (-1)))
    (h : Q ((n : Int) - 1, -1, n) s) : wpAny (model prog w) A (Builtin.Slice.sliceApplied (.ref sl) (pure (n : Int))) Q E s := by
  obtain ⟨os, hos, hcs, hds⟩ := id hs
  cases ps with
  | int i t =>
  unfold Builtin.Slice.sliceApplied Builtin.Slice.sliceFields
  refine wpAny_bind (wpAny_bind (wpAny_field hos hds (x := .none) rfl (wpAny_bind (wpAny_field hos hds (x := .none) rfl (wpAny_bind (wpAny_field hos hds (x := .int (-1) t) rfl (wpAny_pure ?_)))))))
  refine wpAny_bind (HT.slicePart_ (.int (-1) t) ?_)
  show wpAny _ _ (if ((-1 : Int) == 0) = true then _ else _) _ _ s
  rw [if_neg (by decide)]
  refine wpAny_bind (HT.slicePart_ .none (wpAny_bind (HT.slicePart_ .none (wpAny_bind (wpAny_pure ?_)))))
  have ea : Builtin.Slice.sliceAdjust none none (-1) (n : Int) = ((n : Int) - 1, -1) := by
    unfold Builtin.Slice.sliceAdjust
    simp
  show wpAny _ _ (match Builtin.Slice.sliceAdjust none none (-1) (n : Int) with | (lo, hi) => pure (lo, (-1 : Int), Builtin.Slice.slicePlaces lo hi (-1))) _ _ s
  rw [ea]
  have ep : Builtin.Slice.slicePlaces ((n : Int) - 1) (-1) (-1) = n := by
    unfold Builtin.Slice.slicePlaces
    simp
    split <;> omega
  show wpAny _ _ (pure (((n : Int) - 1), (-1 : Int), Builtin.Slice.slicePlaces ((n : Int) - 1) (-1) (-1))) _ _ s
  rw [ep]
  exact wpAny_pure h
theorem rev_pick (xs : Array Value) : ((List.range xs.size).filterMap fun (m : Nat) => xs[(((xs.size : Int) - 1) + (m : Int) * (-1)).toNat]?).toArray = xs.toList.reverse.toArray := by
  congr 1
  have e : ((List.range xs.size).filterMap fun (m : Nat) => xs[(((xs.size : Int) - 1) + (m : Int) * (-1)).toNat]?) = (List.range xs.size).filterMap fun m => xs[xs.size - 1 - m]? := by
    have key : ∀ l : List Nat, (∀ m ∈ l, m < xs.size) → (l.filterMap fun (m : Nat) => xs[(((xs.size : Int) - 1) + (m : Int) * (-1)).toNat]?) = l.filterMap fun m => xs[xs.size - 1 - m]? := by
      intro l
      induction l with
      | nil => intro _; rfl
      | cons m l ih =>
        intro hl
        have hm := hl m List.mem_cons_self
        have q : (((xs.size : Int) - 1) + (m : Int) * (-1)).toNat = xs.size - 1 - m := by omega
        rw [List.filterMap_cons, List.filterMap_cons, q, ih fun k hk => hl k (List.mem_cons_of_mem _ hk)]
    exact key _ fun m hm => List.mem_range.mp hm
  rw [e]
  have e2 : (List.range xs.size).filterMap (fun m => xs[xs.size - 1 - m]?) = ((List.range xs.size).map fun k => xs.size - 1 - k).filterMap (xs[·]?) := by
    rw [List.filterMap_map]
    rfl
  rw [e2, PySem.W.krv_range, List.filterMap_reverse, PySem.W.krv_all]
theorem getItem_rev {prog : Program} {w : World} {A : Around} {E : Value → Shared → Prop} {s : Shared} {t sl : Addr} {items : Array Value} {vs : Value} {Q : Value → Shared → Prop} (ht : IsTup s.heap t items) (hs : s.heap.IsSliceOf sl .none .none vs) (ps : IsPart vs (some (-1)))
    (h : Q (.ref s.heap.objs.size) { s with heap := s.heap.push { cls := .type "tuple", data := .seq items.toList.reverse.toArray } }) (hsz : items.size ≤ sizeLine) : wpAny (model prog w) A (getItem (.ref t) (.ref sl)) Q E s := by
  have hok : sizeOk (.seq items.toList.reverse.toArray) := by
    show items.toList.reverse.toArray.size ≤ sizeLine
    rw [List.size_toArray, List.length_reverse, Array.length_toList]
    exact hsz
  have hTs : s.TypeIs (.ref sl) "slice" := let ⟨os, hos, hcs, _⟩ := hs; ⟨os, hos, hcs⟩
  unfold getItem
  try with_reducible refine wpAny_holding ?_
  first | refine wpAny_bind (wpAny_pure ?_) | skip
  refine wpAny_bind (wpAny_sequenceKey ht.typeIs (by decide) ?_)
  refine wpAny_bind (wpAny_callSpecial?_slot (name := Str.ofString "__getitem__") ht.typeIs PyProof.Rows.slot_tuple_getitem (wpAny_call_entry PyProof.Rows.slot_tuple_getitem ht.typeIs entry_tuple_getitem ?_ (args_tuple_getitem _ _)))
  show wpAny _ _ (Builtin.Tuple.tupleItemsOf (.ref t) >>= _) _ _ s
  refine wpAny_bind (tupleItemsOf_ ht (wpAny_bind (wpAny_typeOf hTs ?_)))
  rw [if_pos (by decide)]
  refine wpAny_bind (rev_applied (n := items.size) hs ps ?_)
  have hno : ¬ ((((items.size : Int) - 1) == 0 && (-1 : Int) == 1 && items.size == items.size) = true) := by
    intro q
    rw [Bool.and_eq_true, Bool.and_eq_true] at q
    exact absurd q.1.2 (by decide)
  show wpAny _ _ (if (((items.size : Int) - 1) == 0 && (-1 : Int) == 1 && items.size == items.size) = true then _ else _) _ _ s
  rw [if_neg hno, rev_pick]
  first
    | exact wpAny_bind (m := Builtin.Tuple.tupleExact _) (wpAny_newObj_type (wpAny_pure ⟨_, rfl, wpAny_pure h⟩) hok)
    | exact wpAny_bind (m := Builtin.Tuple.tupleExact _) (wpAny_newObj_type (wpAny_bind (wpAny_pure (wpAny_pure ⟨_, rfl, wpAny_pure h⟩))) hok)
    | exact wpAny_bind (wpAny_bind (m := Builtin.Tuple.tupleExact _) (wpAny_newObj_type (wpAny_pure (wpAny_pure ⟨_, rfl, wpAny_pure h⟩)) hok))
    | exact wpAny_bind (wpAny_bind (m := Builtin.Tuple.tupleExact _) (wpAny_newObj_type (wpAny_pure ⟨_, rfl, wpAny_pure h⟩) hok))
def tRevT (K : PySem.W.Frag) (te : TE) : TE := fun σ H Q => te σ H fun x H1 => ∃ a xs, x = .ref a ∧ SqT K H1 a xs ∧ ∀ p, H1 p = none → Q (.ref p) (upd H1 p (.tup xs.reverse))
theorem pe_revT {X : Cx} {e : Expr} {te : TE} {k : Nat} {p1 p2 p3 pos : Pos} (he : PE X e te) : PE X (.Subscript e (.Slice none none (some (.UnaryOp .USub (.Constant (.int 1) k p1) p2)) p3) pos) (tRevT X.K te) := by
  constructor
  intro pins s σ H Q I h
  refine Subscript_ (thn (he.run pins s σ H _ I h) fun v s1 ⟨x, H1, I1, r1, q1⟩ => ?_)
  obtain ⟨a, xs, rfl, hx, q⟩ := q1
  cases r1
  have hst : PO X (some (.UnaryOp .USub (.Constant (.int 1) k p1) p2)) (tPart (tUn (rU fun i => .int (-i)) (tC (.int 1)))) := po_some (pe_un un_neg pe_int)
  refine wpAny_Slice ?_
  rw [evalPart_none]
  refine wpAny_pure (wpAny_pure ?_)
  refine thn (hst.run pins s1 σ H1 (fun o H4 => o = some (-1) ∧ H4 = H1) I1 ⟨1, rfl, -1, rfl, rfl, rfl⟩) fun vs s4 ⟨o, H4, I4, ps, eo, e4⟩ => ?_
  subst eo e4
  have I5 : Inv X pins σ H4 { s4 with heap := s4.heap.push { cls := .type "slice", data := .fields #[.none, .none, vs] } } := I4.kept (t' := s4.toks) fun b ob q => Heap.get?_push_of_some _ q
  obtain ⟨its, r, ht, hz⟩ := I5.tuple hx
  show wpAny (model X.prog X.w) X.A (subscriptTail e (.Slice none none (some (.UnaryOp .USub (.Constant (.int 1) k p1) p2)) p3) (.ref a) (.ref s4.heap.objs.size)) (EP X pins σ Q) X.xe { s4 with heap := s4.heap.push { cls := .type "slice", data := .fields #[.none, .none, vs] } }
  refine tail_any (ops := [.ref a, .ref s4.heap.objs.size]) ht.typeIs (PyProof.Rows.slot_tuple_getitem.lookup) ?_ (by with_unfolding_all rfl)
  refine getItem_rev ht (Heap.IsSliceOf.new _ .none .none vs) ps ?_ (by rw [List.size_toArray, ← r.length]; exact hz)
  refine ⟨.ref _, _, I5.laid (t' := s4.toks) (o := .tup xs.reverse) (fun b ob q => Heap.get?_push_of_some _ q) (Nat.le_refl _) ?_, rfl, q _ (I5.hok.fresh (Nat.le_refl _))⟩
  exact ⟨by rw [List.length_reverse]; exact hz, its.reverse, r.reverse, IsTup.new _ _⟩
end NL
end
section
set_option Elab.async false
set_option linter.all false
set_option maxRecDepth 100000
set_option maxHeartbeats 4000000
/-! Dict comprehensions with keys of any kind that a dict is told by; stored under a name. -/
namespace NL
open PySem PySem.Spec PyProof.Rows L2

/-- one pair put: what must hold, where it leads -/
abbrev DStep := Addr → V → V → Hp → (Hp → Prop) → Prop
/-- what is asked of such a step -/
def StepOk (X : Cx) (S : DStep) : Prop := ∀ (Y : Cx), Y.prog = X.prog → Y.w = X.w → Y.A = X.A → ∀ {pins : List (Addr × Obj)} {σ : L2.St} {H : Hp} {s : Shared} {E : Value → Shared → Prop} {D : Addr} {y z : V} {u r : Value} {Nx : Hp → Prop} {Q : Unit → Shared → Prop},
  Inv Y pins σ H s → RelV y u → RelV z r → S D y z H Nx → (∀ H' s', Inv Y pins σ H' s' → Nx H' → Q () s') → wpAny (model Y.prog Y.w) Y.A (dictSet D u r) Q E s
def tDcG (o : HO) (S : DStep) (wi : TI) (g : TG) (tt : TT) (tk tv : TE) (vs : List Nat) : TE := fun σ H Q => wi σ H fun J H1 => ∀ D, H1 D = none → ∃ W : Nat → Nat → Hp → Prop, (∃ m, W 0 m (upd H1 D o)) ∧ ∀ i m H, W i m H →
  (J.stop i H ∧ Q (.ref D) H) ∨ (J.go i H ∧ ∃ Nx : Hp → Prop, (∀ H', Nx H' → ∃ m', m' < m ∧ W (i + 1) m' H') ∧ ∀ x H', J.yld i H x H' → g x (wipe σ vs) H' fun σ2 H2 => wipe σ2 vs = wipe σ vs ∧ tt σ2 H2 fun b H3 =>
    if b = true then tk σ2 H3 fun y H4 => tv σ2 H4 fun z H5 => S D y z H5 Nx else Nx H3)
section
variable {X : Cx}
theorem dg_core {o : HO} {S : DStep} {pins : List (Addr × Obj)} {s : Shared} {σ : L2.St} {H : Hp} {Q : VK} {kx vx tg iter : Expr} {ifs : List Expr} {scope : Scope} {own : List (Str × Nat)} {pos pos' : Pos} {wi : TI} {g : TG} {tt : TT} {tk tv : TE} {use : Option (Value → Sem Unit)} {Qf : Value → Shared → Prop}
    (ho : ∀ (H : Hp) (h : Heap), sysModules < h.objs.size → ObjOk X.prog X.w H (h.push { cls := .type "dict", data := .dict #[] }) h.objs.size o) (hS : StepOk X S) (calm : X.calm = true) (nd : X.N.Nodup) (I : Inv X pins σ H s) (hi : PI X tg iter wi) (ok : BlkOk X.N X.env.scope scope own)
    (hg : ∀ s H C cl fp, PG (X.blk s H scope (compEnvC scope cl C X.env) fp) tg g) (ht : ∀ s H C cl fp, PTs (X.blk s H scope (compEnvC scope cl C X.env) fp) ifs tt) (hk : ∀ s H C cl fp, PE (X.blk s H scope (compEnvC scope cl C X.env) fp) kx tk)
    (hv : ∀ s H C cl fp, PE (X.blk s H scope (compEnvC scope cl C X.env) fp) vx tv) (hs : ∀ x, foldedSetIterable iter X.env x = pure x) (h : tDcG o S wi g tt tk tv (own.map (·.2)) σ H Q)
    (back : ∀ D C s' m H', Inv X pins σ H' s' → Q (.ref D) H' → s'.heap.Ns C m → FpOk X pins H' C → compPost (model X.prog X.w) X.A X.xe use Qf (.ref D) C (.ok .next) s') :
    wpAny (model X.prog X.w) X.A (comprehension (.DictComp kx vx [⟨tg, iter, ifs, 0⟩] scope pos) scope X.env pos' newDict false (eval iter X.env) use) Qf X.xe s := by
  have cap : ∀ y ∈ scope.names, y.2 = .free → ∃ c, X.env.cells.lookup y.1 = some c := fun y hy e => (ok.free y hy e).elim (fun k => I.ok.has _ (.inl k)) fun k => I.ok.has _ (.inr k)
  refine wpAny_comprehension_free (use := use) rfl hs (closure_ok cap) ok.kind (fun y hy e => by rw [ok.uniq y hy, e]) (thn (hi.run pins s σ H _ I h) fun xv sa hx => thn hx fun itv sb hb => ?_)
  obtain ⟨it, fp, tn, J, Hb, e, Ib, T, stb, fb, q⟩ := hb
  subst e
  refine wpAny_newObj_type (newEnv_comp ?_)
  generalize eD : sb.heap.objs.size = D
  have nD : Hb D = none := Ib.hok.fresh (Nat.le_of_eq eD)
  obtain ⟨W, ⟨m0, w0⟩, turn⟩ := q D nD
  -- the new dict stands
  generalize eT : ({ sb with heap := sb.heap.push { cls := .type "dict", data := .dict #[] } } : Shared) = sT
  have IT : Inv X pins σ (upd Hb D o) sT := by
    subst eT
    exact Ib.laid (t' := sb.toks) (fun b u e => Heap.get?_push_of_some _ e) (Nat.le_of_eq eD) (by subst eD; exact ho _ _ Ib.big)
  have hT : sT.heap = sb.heap.push { cls := .type "dict", data := .dict #[] } := by subst eT; rfl
  have fT : ∀ b ∈ fp, FpOk X pins (upd Hb D o) b ∧ b < sT.heap.objs.size := fun b hb => by
    obtain ⟨u, eu, _⟩ := T.obj _ _ stb b hb
    have hlt : b < sb.heap.objs.size := Heap.lt_size eu
    refine ⟨⟨?_, (fb b hb).2⟩, by rw [hT, Heap.size_push]; exact Nat.lt_succ_of_lt hlt⟩
    rw [upd_ne (fun z => by rw [z, ← eD] at hlt; exact absurd hlt (Nat.lt_irrefl _))]
    exact (fb b hb).1
  have stT : tn 0 sT.heap := T.keep _ _ _ stb fun b _ u e => by rw [hT]; exact Heap.get?_push_of_some _ e
  have Iblk := block_start IT ok nd fT
  generalize hcl : cellsFrom (sT.heap.objs.size + 1) scope.names (cloFrom X.env.cells scope.names []) = cl at Iblk
  have pg := hg sT (upd Hb D o) sT.heap.objs.size cl fp
  have pt := ht sT (upd Hb D o) sT.heap.objs.size cl fp
  have pk := hk sT (upd Hb D o) sT.heap.objs.size cl fp
  have pv := hv sT (upd Hb D o) sT.heap.objs.size cl fp
  have free0 : ∀ b ∈ fp, (upd Hb D o) b = none := fun b hb => (fT b hb).1.1
  show codeAny _ _ (.compStart (.DictComp kx vx [⟨tg, iter, ifs, 0⟩] scope pos) 0 (.ref it) (.ref D) (compEnvC scope cl sT.heap.objs.size X.env)) (compPost (model X.prog X.w) X.A X.xe use Qf (.ref D) sT.heap.objs.size) { sT with heap := pushCells (sT.heap.push { cls := .type "dict", data := .dict #[] }) scope.names }
  generalize ece : compEnvC scope cl sT.heap.objs.size X.env = ce at Iblk pg pt pk pv ⊢
  have locC : ce.locals = sT.heap.objs.size := by subst ece; rfl
  generalize eH : upd Hb D o = HT at IT Iblk pg pt pk pv w0 free0 fT
  generalize eU : ({ sT with heap := pushCells (sT.heap.push { cls := .type "dict", data := .dict #[] }) scope.names } : Shared) = sU at Iblk ⊢
  have stU : tn 0 sU.heap := T.keep _ _ _ stT fun b _ u e => by subst eU; exact pushCells_keeps _ _ _ _ (Heap.get?_push_of_some _ e)
  have stat : ∀ {σ' : L2.St} {H' : Hp} {s' : Shared}, Inv (X.blk sT HT scope ce fp) [] σ' H' s' → (∀ b ∈ fp, H' b = none) → ∀ b ∈ fp, FpOk (X.blk sT HT scope ce fp) [] H' b := fun {σ' H' s'} J hn b hb =>
    ⟨hn b hb, (J.ok.exf b hb).1, J.ok.exfs b hb, .inl hb, fun x c e => (J.ok.exf b hb).2 x c e, fun p hp => by cases (show p ∈ ([] : List (Addr × Obj)) from hp)⟩
  have loop : codeAny (model X.prog X.w) X.A (.compLoop (.DictComp kx vx [⟨tg, iter, ifs, 0⟩] scope pos) 0 (.ref it) (.ref D) ce) (compPost (model X.prog X.w) X.A X.xe use Qf (.ref D) sT.heap.objs.size) sU := by
    refine compLoop_anyD (fun n s' => ∃ i H', Inv (X.blk sT HT scope ce fp) [] (wipe σ (own.map (·.2))) H' s' ∧ tn i s'.heap ∧ (∀ b ∈ fp, H' b = none) ∧ W i n H') (fun n sc hsc => ?_) m0 ⟨0, HT, Iblk, stU, free0, w0⟩
    obtain ⟨i, Hc, Ic, stc, nc, wc⟩ := hsc
    rcases turn i n Hc wc with ⟨stp, qq⟩ | ⟨go, Nx, hNx, step⟩
    · refine thnF (T.done (X.blk sT HT scope ce fp) rfl rfl rfl calm i [] sc _ Hc (fun _ _ => False) Ic (stat Ic nc) stc stp) fun r sd ⟨hr, Id⟩ => ?_
      subst hr
      have Ie : Inv X pins σ Hc sd := IT.call' (ch := fp) Id.os Id.base Id.hok Id.bare fun b hb => let z := (fT b hb).1.2; ⟨z.2.2.1, z.1, z.2.2.2.1, z.2.2.2.2⟩
      have nL : Hc sT.heap.objs.size = none := locC ▸ (show Hc ce.locals = none from Id.free)
      obtain ⟨m, hn, _⟩ := Id.loc
      exact back D sT.heap.objs.size sd m Hc Ie qq (locC ▸ (show sd.heap.Ns ce.locals m from hn)) (IT.fpOk (Nat.le_refl _) nL)
    · refine thnF (T.item (X.blk sT HT scope ce fp) rfl rfl rfl calm i [] sc _ Hc (fun _ _ => False) Ic (stat Ic nc) stc go) fun r sd ⟨u, hr, hd⟩ => ?_
      subst hr
      refine thnF hd fun _ se ⟨x, He, Ie, re, ye, ste, ne⟩ => ?_
      have Ip := Ie.pinned (stat Ie ne) (T.obj _ _ ste)
      refine thnF (pg.run _ se _ He x u _ Ip re (step x He ye)) fun _ sf ⟨σf, Hf, If, wf, qf⟩ => ?_
      refine thnF (pt.run _ sf σf Hf _ If qf) fun b sg ⟨Hg, Ig, qg⟩ => ?_
      have fin : ∀ {s' : Shared} {H' : Hp}, Inv (X.blk sT HT scope ce fp) ([] ++ pinsAt fp se.heap) σf H' s' → Nx H' → ∃ m, m < n ∧ ∃ i H', Inv (X.blk sT HT scope ce fp) [] (wipe σ (own.map (·.2))) H' s' ∧ tn i s'.heap ∧ (∀ b ∈ fp, H' b = none) ∧ W i m H' := fun {s' H'} Iz nx => by
        obtain ⟨m', hm, w'⟩ := hNx H' nx
        have pin' : ∀ b ∈ fp, ∀ u, se.heap.get? b = some u → s'.heap.get? b = some u ∧ H' b = none := fun b hb u e => let z := Iz.pin (b, u) (List.mem_append_right _ (List.mem_append_right _ (mem_pinsAt hb e))); ⟨z.1, z.2.1⟩
        refine ⟨m', hm, i + 1, H', (Iz.unpinned (pins := [])).weak (by rw [← wf, wipe_length]) (fun j v e => (wipe_some (by rw [wf]; exact e)).1), T.keep _ _ _ ste fun b hb u e => (pin' b hb u e).1, fun b hb => ?_, w'⟩
        obtain ⟨u, e, _⟩ := T.obj _ _ ste b hb
        exact (pin' b hb u e).2
      cases b with
      | false =>
        simp only [Bool.false_eq_true, if_false] at qg ⊢
        exact fin Ig qg
      | true =>
        simp only [if_true] at qg ⊢
        refine thnF (pk.run _ sg σf Hg _ Ig qg) fun zk sh ⟨yk, Hh, Ih, rh, qh⟩ => ?_
        refine thnF (pv.run _ sh σf Hh _ Ih qh) fun zv si ⟨yv, Hi, Ii, ri, qi⟩ => ?_
        exact hS (X.blk sT HT scope ce fp) rfl rfl rfl Ii rh ri qi fun H' s' I' nx => fin I' nx
  exact codeAny_compStart_dict loop (T.self X.A 0 _ _ _ stU loop)
theorem pe_dg {o : HO} {S : DStep} {kx vx tg iter : Expr} {ifs : List Expr} {scope : Scope} {own : List (Str × Nat)} {pos : Pos} {wi : TI} {g : TG} {tt : TT} {tk tv : TE}
    (ho : ∀ (H : Hp) (h : Heap), sysModules < h.objs.size → ObjOk X.prog X.w H (h.push { cls := .type "dict", data := .dict #[] }) h.objs.size o) (hS : StepOk X S) (calm : X.calm = true) (nd : X.N.Nodup) (hi : PI X tg iter wi) (ok : BlkOk X.N X.env.scope scope own)
    (hg : ∀ s H C cl fp, PG (X.blk s H scope (compEnvC scope cl C X.env) fp) tg g) (ht : ∀ s H C cl fp, PTs (X.blk s H scope (compEnvC scope cl C X.env) fp) ifs tt) (hk : ∀ s H C cl fp, PE (X.blk s H scope (compEnvC scope cl C X.env) fp) kx tk)
    (hv : ∀ s H C cl fp, PE (X.blk s H scope (compEnvC scope cl C X.env) fp) vx tv) (hs : ∀ x, foldedSetIterable iter X.env x = pure x) :
    PE X (.DictComp kx vx [⟨tg, iter, ifs, 0⟩] scope pos) (tDcG o S wi g tt tk tv (own.map (·.2))) := by
  constructor
  intro pins s σ H Q I h
  rw [arm_eval_DictComp]
  refine dg_core ho hS calm nd I hi ok hg ht hk hv hs h fun D C s' m H' I' q hn f => ⟨m, hn, fun h2 sb => ?_⟩
  exact ⟨.ref D, H', I'.turned (t' := s'.toks) (fun b u hb e => (sb.2 b hb).trans e) f.1 f.2.1 f.2.2.2.1 f.2.2.2.2.1 f.2.2.2.2.2, rfl, q⟩
/-- name = {..} on one line, the name a local -/
theorem ps_setDg {o : HO} {S : DStep} {i : Nat} {y : Str} {py : Pos} {kx vx tg iter : Expr} {ifs : List Expr} {scope : Scope} {own : List (Str × Nat)} {pos spos : Pos} {wi : TI} {g : TG} {tt : TT} {tk tv : TE}
    (ho : ∀ (H : Hp) (h : Heap), sysModules < h.objs.size → ObjOk X.prog X.w H (h.push { cls := .type "dict", data := .dict #[] }) h.objs.size o) (hS : StepOk X S) (calm : X.calm = true) (nd : X.N.Nodup) (hy : X.N[i]? = some y) (hyl : X.env.scope.names.lookup y = some .local)
    (hsw : swapsWith (.DictComp kx vx [⟨tg, iter, ifs, 0⟩] scope pos) (some (.Name y py)) spos.line X.env = pure true) (hi : PI X tg iter wi) (ok : BlkOk X.N X.env.scope scope own)
    (hg : ∀ s H C cl fp, PG (X.blk s H scope (compEnvC scope cl C X.env) fp) tg g) (ht : ∀ s H C cl fp, PTs (X.blk s H scope (compEnvC scope cl C X.env) fp) ifs tt) (hk : ∀ s H C cl fp, PE (X.blk s H scope (compEnvC scope cl C X.env) fp) kx tk)
    (hv : ∀ s H C cl fp, PE (X.blk s H scope (compEnvC scope cl C X.env) fp) vx tv) (hs : ∀ x, foldedSetIterable iter X.env x = pure x) :
    PS X (.Assign [.Name y py] (.DictComp kx vx [⟨tg, iter, ifs, 0⟩] scope pos) spos) (tAsg (tDcG o S wi g tt tk tv (own.map (·.2))) (gName i)) := by
  constructor
  intro pins s σ H D I h
  rw [exec_Assign_Name_used _ _ _ _ hsw]
  refine wpAny_bind (wpAny_standAt (wpAny_bind ?_))
  show wpAny _ X.A (do let _ ← comprehension (.DictComp kx vx [⟨tg, iter, ifs, 0⟩] scope pos) scope X.env (firstIterPos [⟨tg, iter, ifs, 0⟩] pos) newDict false (eval iter X.env) (some (assign (.Name y py) X.env))) _ _ s
  have h' : tDcG o S wi g tt tk tv (own.map (·.2)) σ H (fun x H1 => gName i x σ H1 D.nx) := h
  refine wpAny_bind (thn (dg_core (Qf := fun _ s' => SP X pins D .next s') ho hS calm nd I hi ok hg ht hk hv hs h' fun L C s' m H' I' q hn f => ?_) fun _ s' hq => wpAny_pure (wpAny_pure hq))
  show wpAny _ _ (assign (.Name y py) X.env (.ref L)) _ _ _
  refine wpAny_assign_Name (store_ok2 (v := V.ref L) I' nd hy (.inl hyl) rfl (fun s2 I2 ⟨a, sb, ha⟩ => ?_) (.inr hyl))
  have haC : C ≠ a := ha.elim (fun z => by rw [z]; exact f.2.1) fun z e => f.2.2.2.2.1 y a z e.symm
  exact ⟨m, hn.sameBut sb haC, fun h3 sb3 => ⟨_, H', I2.turned (t' := s2.toks) (fun b u hb e => (sb3.2 b hb).trans e) f.1 f.2.1 f.2.2.2.1 f.2.2.2.2.1 f.2.2.2.2.2, q⟩⟩
end
/-! ### the two kinds of keys -/
def stepK : DStep := fun D y z H Nx => ∃ kvs k, y = kV k ∧ H D = some (.dK kvs) ∧ kvs.length < sizeLine ∧ Nx (upd H D (.dK (putK kvs k z)))
def stepT : DStep := fun D y z H Nx => ∃ kvs k b, y = .ref b ∧ H b = some (.tup (k.map kV)) ∧ H D = some (.dT kvs) ∧ kvs.length < sizeLine ∧ Nx (upd H D (.dT (putK kvs k z)))
theorem stepK_ok {X : Cx} : StepOk X stepK := by
  intro Y _ _ _ pins σ H s E D y z u r Nx Q I ry rz hst fin
  obtain ⟨kvs, k, rfl, hD, hz, nx⟩ := hst
  exact d_dictSet I hD hz ry rz fun s' I' => fin _ s' I' nx
theorem stepT_ok {X : Cx} (hu : X.A.units + 64 < cLine) : StepOk X stepT := by
  intro Y _ _ hA pins σ H s E D y z u r Nx Q I ry rz hst fin
  obtain ⟨kvs, k, b, rfl, hb, hD, hz, nx⟩ := hst
  cases ry
  obtain ⟨zl, hd, xs, rel, dd⟩ := dt_of I.hok hD
  have hzx : xs.length ≤ sizeLine := by rw [← Paired.length rel]; exact zl
  have hl : (putK kvs k z).length ≤ sizeLine := by have := length_putK kvs k z; omega
  refine wpAny_dictSet_heap (knd := tupleKind (mixKind Y.prog Y.w)) (hsz := hzx) (by show Y.A.units < cLine; rw [hA]; omega) (key_of I.hok hb) dd fun h' dd' sb => fin _ _ ?_ nx
  obtain ⟨q, es, ep, hq, e2, e3, e4, _, e5⟩ := dd'
  refine d_write I (by rw [hD]; exact trivial) sb ⟨q, hq⟩ ⟨hl, hd, _, (rel.put k hb rz).keeps fun c ys ec => ?_, q, es, ep, hq, e2, e3, e4, e5⟩
  rw [upd_ne (ne_of ec hD (fun z => nomatch z))]
  exact ec
end NL
end
section
set_option Elab.async false
set_option linter.all false
set_option maxRecDepth 100000
set_option maxHeartbeats 4000000
/-! The readings of what is left. -/
namespace NL
open PySem PySem.Spec PyProof.Rows L2

section
variable {γ : Gc} {E : XK} {fa fb : FE} {ta tb : TE} {ga : FA} {tga : TA}
theorem rd_revL (g : γ.Ok) {w : Wd} {st : Store} {H : Hp} {u : V} {x : AV} {xs : List PyData} {Q : VK} (c : ConS γ w st H) (r : ConV γ.K w H x u) (e : vw st x = some (.list xs)) (h : Good γ w H E (RV γ w) Q (.ok (.d (.list xs.reverse)) st)) :
    ∃ a vs, u = .ref a ∧ SqL γ.K H a vs ∧ ∀ p, H p = none → Q (.ref p) (upd H p (.lst vs.reverse)) := by
  obtain ⟨a, vs, rfl, h1, h2⟩ := ls_at c r (xs := xs) (by unfold ls; rw [e])
  refine ⟨a, vs, rfl, SqL.of h1, fun p hp => ?_⟩
  obtain ⟨e3, c3, r3⟩ := new_lst g c h2.reverse hp
  exact h _ _ e3 c3 r3
theorem rd_rev (g : γ.Ok) (ha : RdE γ E fa ta) : RdE γ E (eRev fa) (fun σ H Q => tRevL γ.K ta σ H Q ∨ tRevT γ.K ta σ H Q) := by
  intro w st a σ H Q c ce h
  cases eo : fa a st with
  | stuck => unfold eRev at h; rw [eo] at h; exact h.elim
  | exc n x s1 =>
    unfold eRev at h
    rw [eo] at h
    refine .inl (ha w st a σ H _ c ce ?_)
    rw [eo]
    exact h
  | ok x s1 =>
    unfold eRev at h
    rw [eo] at h
    simp only [Out.bind_ok] at h
    split at h
    · rename_i xs ev
      refine .inl (ha w st a σ H _ c ce ?_)
      rw [eo]
      intro u H1 e1 c1 r1
      exact rd_revL g c1 r1 ev (Good.shift h e1)
    · rename_i xs ev
      refine .inr (ha w st a σ H _ c ce ?_)
      rw [eo]
      intro u H1 e1 c1 r1
      have hx : x = .d (.tuple xs) := by
        unfold vw at ev
        split at ev
        · cases ev; rfl
        · split at ev <;> cases ev
        · cases ev
      subst hx
      cases r1 with
      | tup h1 n1 f1 =>
      refine ⟨_, _, rfl, SqT.of h1, fun p hp => ?_⟩
      obtain ⟨e3, c3, r3⟩ := new_tup g c1 f1.reverse hp
      exact h _ _ (e1.trans e3) c3 r3
    · exact h.elim
/-! ### new objects of calls -/
def CallNew (γ : Gc) (f : Store → List AV → Option Cell) (r : List V → Hp → VK → Prop) : Prop := ∀ (w : Wd) (st : Store) (H : Hp) (xs : List AV) (us : List V) (z : Cell) (Q : VK), ConS γ w st H → ConVs γ.K w H xs us → f st xs = some z →
  (∀ p H', Ext w.al H H' → Grow w H (w.add p) → ConS γ (w.add p) (st ++ [z]) H' → Q (.ref p) H') → r us H Q
theorem rn_cb {g : Store → List AV → Option Cell} {r : List V → Hp → VK → Prop} (hg : CallNew γ g r) (ha : RdA γ E ga tga) : RdN γ E (nCB g ga) (tCB r tga) := by
  intro w st a σ H Q c ce h
  refine ha w st a σ H _ c ce (Good.bindN c.sub h fun xs s1 us H1 e1 c1 r1 h1 => ?_)
  cases ez : g s1 xs with
  | none => rw [ez] at h1; exact h1.elim
  | some z =>
    rw [ez] at h1
    exact hg w s1 H1 xs us z Q c1 r1 ez fun p H' e gr c' => h1 p H' e gr c'
theorem hList_ok (g : γ.Ok) : CallNew γ hList (fun xs H Q => ∃ p ys, xs = [.ref p] ∧ (SqL γ.K H p ys ∨ SqT γ.K H p ys) ∧ ∀ l, H l = none → Q (.ref l) (upd H l (.lst ys))) := by
  intro w st H xs us z Q c a e k
  unfold hList at e
  split at e
  · rename_i x
    obtain ⟨ds, e1, rfl⟩ := Option.map_eq_some_iff.mp e
    obtain ⟨u, rfl, r⟩ := cv1 a
    obtain ⟨p, vs, rfl, hp, hf⟩ := sq_at c r e1
    refine ⟨p, vs, rfl, sq_sq hp, fun l hl => ?_⟩
    obtain ⟨c3, e3, g3⟩ := c.bornL g hl hf
    exact k l _ e3 g3 c3
  · cases e
theorem pairs_grow {κ : Type} {K : PySem.W.Frag} {w w' : Wd} {H H' : Hp} {ws : List (κ × V)} {kvs : List (κ × PyData)} (g : Grow w H w') (e : Ext w.al H H') (s : ∀ a ∈ w.al, w.rh a) (p : Paired (fun (p : κ × V) (q : κ × PyData) => p.1 = q.1 ∧ FD K w.rh H p.2 q.2) ws kvs) :
    Paired (fun (p : κ × V) (q : κ × PyData) => p.1 = q.1 ∧ FD K w'.rh H' p.2 q.2) ws kvs := paired_imp p fun _ _ q => ⟨q.1, FD.grow g e s q.2⟩
theorem hDictK_ok (g : γ.Ok) : CallNew γ hDictK (fun xs H Q => ∃ (a : Addr) (ps : List Addr) (kvs : List (Key × V)), xs = [.ref a] ∧ SqL γ.K H a (ps.map V.ref) ∧ Paired (fun p kv => SqT γ.K H p [kV kv.1, kv.2]) ps kvs ∧ ∀ q, H q = none → Q (.ref q) (upd H q (.dK (mergeK [] kvs)))) := by
  intro w st H xs us z Q c a e k
  unfold hDictK gDictK at e
  split at e
  · rename_i d e0
    cases e
    split at e0
    · split at e0
      · rename_i ds e1
        obtain ⟨ps, e2, e3⟩ := Option.map_eq_some_iff.mp e0
        cases e3
        obtain ⟨u, rfl, r⟩ := cv1 a
        obtain ⟨p, vs, rfl, hp, hf⟩ := ls_at c r e1
        obtain ⟨as, kvs, rfl, h1, h2⟩ := pairsK_at e2 hf
        refine ⟨p, as, kvs, rfl, SqL.of hp, h1, fun q hq => ?_⟩
        have mp := merge_pair (paired_imp h2 fun _ _ q => q) (.nil (F := fun (p : Key × V) (q : Key × PyData) => p.1 = q.1 ∧ FD γ.K w.rh H p.2 q.2))
        obtain ⟨c3, e3, g3⟩ := c.born (cl := .d (.k (mergeD [] ps))) (o := .dK (mergeK [] kvs)) g hq trivial fun gr ex h => ⟨_, h, pairs_grow gr ex c.sub mp⟩
        exact k q _ e3 g3 c3
      · cases e0
    · cases e0
  · cases e
theorem hDictT_ok (g : γ.Ok) : CallNew γ hDictT (rDictT γ.K) := by
  intro w st H xs us z Q c a e k
  unfold hDictT gDictT at e
  split at e
  · rename_i d e0
    cases e
    split at e0
    · split at e0
      · rename_i ds e1
        obtain ⟨ps, e2, e3⟩ := Option.map_eq_some_iff.mp e0
        cases e3
        obtain ⟨u, rfl, r⟩ := cv1 a
        obtain ⟨p, vs, rfl, hp, hf⟩ := ls_at c r e1
        obtain ⟨as, kvs, rfl, h1, h2⟩ := pairsT_at e2 hf
        refine ⟨p, as, kvs, rfl, SqL.of hp, h1, fun q hq => ?_⟩
        have mp := merge_pair (paired_imp h2 fun _ _ q => q) (.nil (F := fun (p : List Key × V) (q : List Key × PyData) => p.1 = q.1 ∧ FD γ.K w.rh H p.2 q.2))
        obtain ⟨c3, e3, g3⟩ := c.born (cl := .d (.t (mergeD [] ps))) (o := .dT (mergeG [] kvs)) g hq trivial fun gr ex h => ⟨_, h, pairs_grow gr ex c.sub mp⟩
        exact k q _ e3 g3 c3
      · cases e0
    · cases e0
  · cases e
theorem rn_emptyT (g : γ.Ok) : RdN γ E (nNew (.d (.t []))) tDNewT := by
  intro w st a σ H Q c ce h p hp
  obtain ⟨c3, e3, g3⟩ := c.born (cl := .d (.t [])) (o := .dT []) g hp trivial fun gr ex h => ⟨[], h, .nil⟩
  exact h p _ e3 g3 c3
/-! ### range(..) as an argument -/
def RdR (γ : Gc) (E : XK) (f : Env → Store → Out (Int × Int)) (t : L2.St → Hp → (Int → Int → Hp → Prop) → Prop) : Prop := ∀ (w : Wd) (st : Store) (a : Env) (σ : L2.St) (H : Hp) (Q : Int → Int → Hp → Prop), ConS γ w st H → ConE γ.K w H a σ →
  Good γ w H E (fun _ p q => p = q) (fun p H' => Q p.1 p.2 H') (f a st) → t σ H Q
theorem int1_at {K : PySem.W.Frag} {w : Wd} {H : Hp} {x : AV} {u : V} {i : Int} (r : ConV K w H x u) (h : int1 x = some i) : u = .int i := by
  unfold int1 at h
  split at h
  · cases h; cases r; rfl
  · cases h
theorem rr_1 (ha : RdE γ E fa ta) : RdR γ E (rg1 fa) (tRg1 ta) := by
  intro w st a σ H Q c ce h
  refine ha w st a σ H _ c ce (Good.bind h fun x s1 u H1 e1 c1 r1 h1 => ?_)
  obtain ⟨z, ez, h3⟩ := lift_ok h1
  obtain ⟨i, ei, rfl⟩ := Option.map_eq_some_iff.mp ez
  exact ⟨i, int1_at r1 ei, h3 (0, i) H1 (Ext.refl _ _) c1 rfl⟩
theorem rr_2 (ha : RdE γ E fa ta) (hb : RdE γ E fb tb) : RdR γ E (rg2 fa fb) (tRg2 ta tb) := by
  intro w st a σ H Q c ce h
  refine ha w st a σ H _ c ce (Good.bind h fun x s1 u H1 e1 c1 r1 h1 => ?_)
  refine hb w s1 a σ H1 _ c1 (ce.ext e1 c.sub) (Good.bind h1 fun y s2 v H2 e2 c2 r2 h2 => ?_)
  split at h2
  · rename_i i j ei ej
    exact ⟨i, j, int1_at (ConV.ext e2 c1.sub r1) ei, int1_at r2 ej, h2 (i, j) H2 (Ext.refl _ _) c2 rfl⟩
  · exact h2.elim
theorem rg_fds {K : PySem.W.Frag} {rh : Addr → Prop} {H : Hp} (lo : Int) : ∀ l : List Nat, FDs K rh H (l.map fun (i : Nat) => V.int (lo + (i : Nat))) (l.map fun (i : Nat) => PyData.int (lo + (i : Int)))
  | [] => .nil
  | i :: l => .cons (.int _) (rg_fds lo l)
theorem rgOk_of {a b : Int} (h : rgOkB a b = true) : RgOk a b := by
  unfold rgOkB at h
  obtain ⟨h1, h3⟩ := Bool.and_eq_true_iff.mp h
  obtain ⟨h1, h2⟩ := Bool.and_eq_true_iff.mp h1
  obtain ⟨a1, a2⟩ := small62_ok h1
  obtain ⟨b1, b2⟩ := small62_ok h2
  exact ⟨a1, a2, b1, b2, Nat.le_of_ble_eq_true h3⟩
theorem rn_lrg (g : γ.Ok) {f : Env → Store → Out (Int × Int)} {t : L2.St → Hp → (Int → Int → Hp → Prop) → Prop} (hr : RdR γ E f t) : RdN γ E (nLRg f) (tLstRg t) := by
  intro w st a σ H Q c ce h
  refine hr w st a σ H _ c ce (Good.bindN c.sub h fun p s1 q H1 e1 c1 r1 h1 => ?_)
  cases (r1 : p = q)
  split at h1
  · rename_i hk
    refine ⟨rgOk_of hk, fun q hq => ?_⟩
    obtain ⟨c3, e3, g3⟩ := c1.bornL (vs := rgV p.1 p.2) g hq (rg_fds p.1 _)
    exact h1 q _ e3 g3 c3
  · exact h1.elim
theorem rd_trg (g : γ.Ok) {f : Env → Store → Out (Int × Int)} {t : L2.St → Hp → (Int → Int → Hp → Prop) → Prop} (hr : RdR γ E f t) : RdE γ E (eTRg f) (tTupRg t) := by
  intro w st a σ H Q c ce h
  refine hr w st a σ H _ c ce (Good.bind h fun p s1 q H1 e1 c1 r1 h1 => ?_)
  cases (r1 : p = q)
  split at h1
  · rename_i hk
    refine ⟨rgOk_of hk, fun q hq => ?_⟩
    obtain ⟨e3, c3, r3⟩ := new_tup (vs := rgV p.1 p.2) g c1 (rg_fds p.1 _) hq
    exact h1 _ _ e3 c3 r3
  · exact h1.elim
/-! ### displays with stars -/
theorem star_app {K : PySem.W.Frag} {w : Wd} {H : Hp} {ys : List AV} {us : List V} (r : ConVs K w H ys us) : ∀ {ds : List PyData} {vs : List V}, FDs K w.rh H vs ds → ConVs K w H (ds.map AV.d ++ ys) (vs ++ us)
  | [], _, .nil => r
  | _ :: _, _, .cons q t => .cons q (star_app r t)
theorem ra_star (ha : RdE γ E fa ta) (hg : RdA γ E ga tga) : RdA γ E (aStar fa ga) (StX.tStar γ.K ta tga) := by
  intro w st a σ H Q c ce h
  refine ha w st a σ H _ c ce (Good.bind h fun x s1 u H1 e1 c1 r1 h1 => ?_)
  split at h1
  · rename_i ds ed
    obtain ⟨p, vs, rfl, hp, hf⟩ := sq_at c1 r1 ed
    refine ⟨p, vs, rfl, (sq_sq hp).symm, hg w s1 a σ H1 _ c1 (ce.ext e1 c.sub) (Good.bind h1 fun ys s2 us H2 e2 c2 r2 h2 => ?_)⟩
    exact h2 _ H2 (Ext.refl _ _) c2 (star_app r2 (FDs.ext e2 c1.sub hf))
  · exact h1.elim
/-! ### enumerate -/
theorem enA_get {ds : List PyData} {i : Nat} {x : AV} (h : (enA ds)[i]? = some x) : ∃ d, ds[i]? = some d ∧ x = .d (.tuple [.int i, d]) := by
  unfold enA at h
  rw [List.getElem?_mapIdx] at h
  obtain ⟨d, h1, h2⟩ := Option.map_eq_some_iff.mp h
  exact ⟨d, h1, h2.symm⟩
theorem enA_len (ds : List PyData) : (enA ds).length = ds.length := by unfold enA; simp
theorem pair_new (g : γ.Ok) {w : Wd} {st : Store} {H : Hp} {T : Addr} {x : V} {d : PyData} (i : Nat) (c : ConS γ w st H) (hT : H T = none) (r : FD γ.K w.rh H x d) :
    Ext w.al H (upd H T (.tup [.int (i : Nat), x])) ∧ ConS γ w st (upd H T (.tup [.int (i : Nat), x])) ∧ ConV γ.K w (upd H T (.tup [.int (i : Nat), x])) (.d (.tuple [.int i, d])) (.ref T) :=
  new_tup g c (.cons (.int _) (.cons r .nil)) hT
theorem en_srcL (g : γ.Ok) {w : Wd} {H : Hp} {a : Addr} {vs : List V} {ds : List PyData} (s : ∀ a ∈ w.al, w.rh a) (h1 : H a = some (.lst vs)) (n1 : ¬ w.rh a) (f1 : FDs γ.K w.rh H vs ds) : SrcOk γ w (.xs (enA ds)) (Ite γ.K a) H := by
  intro w' st H' gr e c
  have hk : H' a = some (.lst vs) := ext_at e s n1 h1 fun _ z => (nomatch z)
  have fk := FDs.grow gr e s f1
  refine ⟨fun i x hi hx => ?_, fun _ => ⟨vs, SqL.of hk, by rw [fk.length]; exact Nat.le_of_eq (enA_len ds).symm⟩⟩
  obtain ⟨d, hd, rfl⟩ := enA_get hx
  obtain ⟨v, k1, k2⟩ := fk.get hd
  refine ⟨⟨vs, v, SqL.of hk, k1⟩, fun u H2 ⟨T, y, eu, hT, e2, hy⟩ => ?_⟩
  subst eu e2
  have := hy vs (SqL.of hk)
  rw [k1] at this
  cases this
  exact pair_new g i c hT k2
theorem en_srcT (g : γ.Ok) {w : Wd} {H : Hp} {a : Addr} {vs : List V} {ds : List PyData} (s : ∀ a ∈ w.al, w.rh a) (h1 : H a = some (.tup vs)) (n1 : ¬ w.rh a) (f1 : FDs γ.K w.rh H vs ds) : SrcOk γ w (.xs (enA ds)) (ItT γ.K a) H := by
  intro w' st H' gr e c
  have hk : H' a = some (.tup vs) := ext_at e s n1 h1 fun _ z => (nomatch z)
  have fk := FDs.grow gr e s f1
  refine ⟨fun i x hi hx => ?_, fun _ => ⟨vs, SqT.of hk, by rw [fk.length]; exact Nat.le_of_eq (enA_len ds).symm⟩⟩
  obtain ⟨d, hd, rfl⟩ := enA_get hx
  obtain ⟨v, k1, k2⟩ := fk.get hd
  refine ⟨⟨vs, v, SqT.of hk, k1⟩, fun u H2 ⟨T, y, eu, hT, e2, hy⟩ => ?_⟩
  subst eu e2
  have := hy vs (SqT.of hk)
  rw [k1] at this
  cases this
  exact pair_new g i c hT k2
theorem ri_enum (g : γ.Ok) (ha : RdE γ E fa ta) : RdI γ E (sEnum fa) (fun σ H R => iEnum γ.K (tCons ta tNil) σ H R ∨ iEnumT γ.K (tCons ta tNil) σ H R) := by
  intro w st a σ H R c ce h
  unfold sEnum at h
  cases eo : fa a st with
  | stuck => rw [eo] at h; exact h.elim
  | exc n x s1 =>
    rw [eo] at h
    refine .inl (ha w st a σ H _ c ce ?_)
    rw [eo]
    exact h
  | ok x s1 =>
    rw [eo] at h
    simp only [Out.bind_ok] at h
    split at h
    · refine .inl (ha w st a σ H _ c ce ?_)
      rw [eo]
      intro u H1 e1 c1 r1
      cases r1 with
      | lst h1 n1 f1 => exact ⟨_, _, rfl, SqL.of h1, h _ H1 e1 c1 (en_srcL g c.sub h1 n1 f1)⟩
    · refine .inr (ha w st a σ H _ c ce ?_)
      rw [eo]
      intro u H1 e1 c1 r1
      cases r1 with
      | tup h1 n1 f1 => exact ⟨_, _, rfl, SqT.of h1, h _ H1 e1 c1 (en_srcT g c.sub h1 n1 f1)⟩
    · exact h.elim
theorem rt_yes : RdT γ E tYes' tYes := fun w st a σ H Q c ce h => h true H (Ext.refl _ _) c rfl
end
/-! ### dict comprehensions, keys tuples -/
theorem rn_dt {γ : Gc} (g0 : γ.Ok) {E : XK} {src : FSrc} {wi : TI} {tg : FG} {g : TG} {tt : FT} {tT : TT} {fk fv : FE} {tK tV : TE} {own : List Nat} (hsrc : RdI γ E src wi) (hG : RdG γ tg g own) (hT : RdT γ E0 tt tT) (hK : RdE γ E0 fk tK) (hV : RdE γ E0 fv tV) :
    RdN γ E (nDt src tg tt fk fv own) (tDcG (.dT []) stepT wi g tT tK tV own) := by
  intro w st a σ H Q c ce h
  refine hsrc w st a σ H _ c ce (Good.bindN c.sub h fun s s1 J H1 e1 c1 ok h1 => ?_)
  intro D hD
  have gr : Grow w H1 (w.res D) := grow_res w (.inl hD)
  have ce1 := ce.ext e1 c.sub
  have nD : ¬ D ∈ w.al := fun z => c1.fresh hD (c1.sub _ z)
  obtain ⟨c0, e0, _⟩ := c1.resv g0 (o := .dT []) hD trivial
  refine ⟨fun i m H' => m = s.len - i ∧ i ≤ s.len ∧ ∃ st' acc vs, ConS γ (w.res D) st' H' ∧ Ext w.al H1 H' ∧ H' D = some (.dT vs) ∧ Paired (fun (p : List Key × V) (q : List Key × PyData) => p.1 = q.1 ∧ FD γ.K (w.res D).rh H' p.2 q.2) vs acc ∧
      GoodN γ w H1 E Q ((dtGo s (dtTurn tg tt fk fv own a) (s.len - i) i acc st').bind fun xs s2 => .ok (.d (.t xs)) s2),
    ⟨s.len, by simp, Nat.zero_le _, s1, [], [], c0, e0, upd_same, .nil, h1⟩, ?_⟩
  rintro i m H' ⟨rfl, hi, st', acc, vs, c', e', hv, hf, hg⟩
  obtain ⟨item, fin⟩ := ok (w.res D) st' H' gr e' c'
  by_cases hlt : i < s.len
  · obtain ⟨k, hk⟩ : ∃ k, s.len - i = k + 1 := ⟨s.len - i - 1, by omega⟩
    have hk' : s.len - (i + 1) = k := by omega
    rw [hk] at hg
    simp only [dtGo] at hg
    cases ex : s.at st' i with
    | none => rw [ex] at hg; exact hg.elim
    | some x =>
    rw [ex] at hg
    simp only [Out.bind_assoc] at hg
    obtain ⟨go, yl⟩ := item i x hlt ex
    refine .inr ⟨go, fun H' => i + 1 ≤ s.len ∧ ∃ st' acc vs, ConS γ (w.res D) st' H' ∧ Ext w.al H1 H' ∧ H' D = some (.dT vs) ∧ Paired (fun (p : List Key × V) (q : List Key × PyData) => p.1 = q.1 ∧ FD γ.K (w.res D).rh H' p.2 q.2) vs acc ∧
      GoodN γ w H1 E Q ((dtGo s (dtTurn tg tt fk fv own a) (s.len - (i + 1)) (i + 1) acc st').bind fun xs s2 => .ok (.d (.t xs)) s2), fun H' n => ⟨s.len - (i + 1), by omega, rfl, n⟩, fun v H2 y => ?_⟩
    obtain ⟨e2, c2, r2⟩ := yl v H2 y
    have e2w : Ext w.al H' H2 := e2
    have e12 : Ext w.al H1 H2 := e'.trans e2w
    have ce2 := (ce1.wipe own).grow gr e12 c1.sub
    unfold dtTurn at hg
    cases et : tg x (wipeA a own) with
    | none => rw [et] at hg; exact hg.elim
    | some a' =>
    rw [et] at hg
    simp only [Out.bind_assoc] at hg
    refine hG (w.res D) st' (wipeA a own) a' (wipe σ own) H2 x v _ c2 ce2 r2 et fun σ2 ce3 hw => ⟨(hw own fun _ h => h).trans (wipe_wipe σ own), ?_⟩
    have keepD : ∀ {H3 : Hp}, Ext w.al H2 H3 → H3 D = some (.dT vs) := fun e => e _ _ (e2w _ _ hv nD fun _ z => nomatch z) nD fun _ z => nomatch z
    refine hT (w.res D) st' a' σ2 H2 _ c2 ce3 (good_quiet (fun z => by rw [z] at hg; exact hg.elim) fun b s3 b' H3 eb e3 c3 rb => ?_)
    cases (rb : b = b')
    rw [eb] at hg
    simp only [Out.bind_ok] at hg
    have e3w : Ext w.al H2 H3 := e3
    cases b with
    | false =>
      simp only [Bool.false_eq_true, if_false, Out.bind_ok] at hg ⊢
      refine ⟨hlt, s3, acc, vs, c3, e12.trans e3w, keepD e3w, paired_imp hf fun _ _ q => ⟨q.1, FD.ext (e2.trans e3) c'.sub q.2⟩, ?_⟩
      rw [hk']; exact hg
    | true =>
      simp only [if_true, Out.bind_assoc] at hg ⊢
      refine hK (w.res D) s3 a' σ2 H3 _ c3 (ce3.ext e3 c2.sub) (good_quiet (fun z => by rw [z] at hg; exact hg.elim) fun yk s4 uk H4 ek e4 c4 rk => ?_)
      rw [ek] at hg
      simp only [Out.bind_ok] at hg
      refine hV (w.res D) s4 a' σ2 H4 _ c4 ((ce3.ext e3 c2.sub).ext e4 c3.sub) (good_quiet (fun z => by rw [z] at hg; exact hg.elim) fun yv s5 u H5 ey e5 c5 ry => ?_)
      rw [ey] at hg
      simp only [Out.bind_ok] at hg
      have e5w : Ext w.al H3 H5 := e4.trans e5
      have e25 : Ext w.al H2 H5 := e3w.trans e5w
      split at hg
      · rename_i kd d
        split at hg
        · rename_i kk hkk
          simp only [Out.bind_ok] at hg
          split at hg
          · rename_i hz
            have hkd := toKeys_eq hkk
            subst hkd
            obtain ⟨b, rfl, nb, hb⟩ := FD.keysT (FD.ext e5 c4.sub rk)
            refine ⟨vs, kk, b, rfl, hb, keepD e25, by rw [Paired.length hf]; exact hz, hlt, s5, putD acc kk d, putK vs kk u, c5.wres g0 (.inr rfl) nD (keepD e25) trivial trivial, (e12.trans e25).past hD, upd_same, ?_, ?_⟩
            · have ex : Ext [D] H5 (upd H5 D (.dT (putK vs kk u))) := Ext.upd (.inr (by simp))
              have sx : ∀ a ∈ [D], (w.res D).rh a := fun a h => .inr (List.mem_singleton.mp h)
              exact put_pair (paired_imp hf fun _ _ q => ⟨q.1, FD.ext ex sx (FD.ext (e2.trans (e3.trans (e4.trans e5))) c'.sub q.2)⟩) kk (FD.ext ex sx ry)
            · rw [hk']; exact hg
          · exact hg.elim
        · exact hg.elim
      · exact hg.elim
  · have he : i = s.len := by omega
    subst he
    simp only [Nat.sub_self, dtGo] at hg
    split at hg
    · rename_i hen
      refine .inl ⟨fin hen, hg D H' e' (grow_add w (.inl hD)) (c'.settle nD ⟨vs, hv, hf⟩)⟩
    · exact hg.elim
end NL
end
section
set_option Elab.async false
set_option linter.all false
set_option maxRecDepth 100000
set_option maxHeartbeats 4000000
/-! Lists walked and pairs taken apart while an exception is held. -/
namespace NL
open PySem PySem.Spec PyProof.Rows L2 HotX
section
variable {prog : Program} {w : World} {A : Around} {E : Value → Shared → Prop} {s : Shared}
theorem stop_hot {α : Type} {x1 : Addr} {Q : α → Shared → Prop} (hot : HotAt A x1 s.heap)
    (hE : ∀ e h', Shared.TypeIs { s with heap := h' } (.ref e) "StopIteration" → (∀ b o, s.heap.get? b = some o → h'.get? b = some o) → E (.ref e) { s with heap := h' }) :
    wpAny (model prog w) A (newExc (.type "StopIteration") [] >>= fun e => (raiseNew e : Sem α)) Q E s := by
  obtain ⟨hh, o1, vs1, h1, d1, c1⟩ := hot
  apply wpAny_bind
  simp only [newExc, newTuple]
  apply wpAny_bind
  apply wpAny_newObj_type _ (by size_fits)
  apply wpAny_bind (m := firstArgMember _ _)
  apply wpAny_of_eq (a := Value.none) (by first | rfl | (simp only [firstArgMember]; rfl))
  apply wpAny_newObj_type _ (by size_fits)
  have k1 := Heap.get?_push_of_some (h := s.heap) { cls := .type "tuple", data := .seq ([] : List Value).toArray } h1
  refine raiseNew_hot ⟨hh, o1, vs1, Heap.get?_push_of_some _ (Heap.get?_push_of_some _ h1), d1, c1⟩ (Nat.ne_of_lt (Heap.lt_size (Heap.get?_push_of_some _ h1))) (Heap.get?_push_size _ rfl) rfl (by first | (simp; done) | (simp; omega) | (simp only [Array.size_append]; simp; omega)) ?_
  refine hE _ _ ⟨_, Heap.get?_update_self _ (Heap.get?_push_size _ rfl) rfl, rfl⟩ fun b o e => ?_
  rw [Heap.get?_update_other _ _ (Nat.ne_of_gt (Heap.lt_size (Heap.get?_push_of_some _ e)))]
  exact Heap.get?_push_of_some _ (Heap.get?_push_of_some _ e)
/-- the end of a list's, a tuple's iterator -/
theorem list_end_hot {it l x1 : Addr} {i : Nat} {items : Array Value} {Q : Option Value → Shared → Prop} (hot : HotAt A x1 s.heap) (ne : x1 ≠ it) (hit : s.heap.IsListIter it l i) (hl : s.heap.IsList l items) (hx : items[i]? = none)
    (hQ : ∀ h', Heap.ExtBut it s.heap h' → Q none { s with heap := h' }) : wpAny (model prog w) A (pyNext (.ref it)) Q E s := by
  obtain ⟨o, ho, hc, hd⟩ := id hit
  obtain ⟨ol, hol, hlc, nl, hdl⟩ := hl
  unfold pyNext
  apply wpAny_bind
  apply wpAny_attempt
  apply wpAny_callSpecial?_slot (name := Str.ofString "__next__") hit.typeIs slot_listiter_next
  refine wpAny_call_entry slot_listiter_next hit.typeIs entry_listiter_next ?_ (args_listiter_next _)
  change wpAny _ _ (field (.ref it) 0 >>= _) _ _ s
  apply wpAny_bind
  apply wpAny_field ho hd (x := .ref l) rfl
  change wpAny _ _ (if (Value.ref l == Value.none) = true then _ else _) _ _ s
  rw [if_neg (show ¬ ((Value.ref l == Value.none) = true) from Bool.false_ne_true)]
  change wpAny _ _ (field (.ref it) 1 >>= _) _ _ s
  apply wpAny_bind
  apply wpAny_field ho hd (x := .int i 0) rfl
  change wpAny _ _ (seqItems? (.ref l) >>= _) _ _ s
  apply wpAny_bind
  refine wpAny_seqItems hol hdl ?_
  simp only [Int.toNat_natCast, hx]
  apply wpAny_bind
  apply wpAny_rule
  apply wpAny_bind
  apply wpAny_setField ho hd (by simp)
  obtain ⟨hh, o1, vs1, h1, d1, c1⟩ := hot
  refine stop_hot (x1 := x1) ⟨hh, o1, vs1, by rw [Heap.get?_update_other _ _ (Ne.symm ne)]; exact h1, d1, c1⟩ fun e h' ty k => ?_
  refine wpAny_bind (wpAny_isInstance (T := "StopIteration") (b := true) ty isSubtype_stop ?_)
  exact wpAny_pure (hQ _ fun b u hb hu => k b u (by rw [Heap.get?_update_other _ _ (Ne.symm hb)]; exact hu))
theorem tup_end_hot {it t x1 : Addr} {i : Nat} {items : Array Value} {Q : Option Value → Shared → Prop} (hot : HotAt A x1 s.heap) (ne : x1 ≠ it) (hit : IsTupIter s.heap it t i) (ht : IsTup s.heap t items) (hx : items[i]? = none)
    (hQ : ∀ h', Heap.ExtBut it s.heap h' → Q none { s with heap := h' }) : wpAny (model prog w) A (pyNext (.ref it)) Q E s := by
  obtain ⟨o, ho, hc, hd⟩ := id hit
  obtain ⟨ol, hol, hlc, nl, hdl⟩ := ht
  unfold pyNext
  apply wpAny_bind
  apply wpAny_attempt
  apply wpAny_callSpecial?_slot (name := Str.ofString "__next__") hit.typeIs slot_tupleiter_next
  refine wpAny_call_entry slot_tupleiter_next hit.typeIs entry_tupleiter_next ?_ (args_tupleiter_next _)
  change wpAny _ _ (field (.ref it) 0 >>= _) _ _ s
  apply wpAny_bind
  apply wpAny_field ho hd (x := .ref t) rfl
  change wpAny _ _ (if (Value.ref t == Value.none) = true then _ else _) _ _ s
  rw [if_neg (show ¬ ((Value.ref t == Value.none) = true) from Bool.false_ne_true)]
  change wpAny _ _ (field (.ref it) 1 >>= _) _ _ s
  apply wpAny_bind
  apply wpAny_field ho hd (x := .int i 0) rfl
  change wpAny _ _ (seqItems? (.ref t) >>= _) _ _ s
  apply wpAny_bind
  refine wpAny_seqItems hol hdl ?_
  simp only [Int.toNat_natCast, hx]
  apply wpAny_bind
  apply wpAny_rule
  apply wpAny_bind
  apply wpAny_setField ho hd (by simp)
  obtain ⟨hh, o1, vs1, h1, d1, c1⟩ := hot
  refine stop_hot (x1 := x1) ⟨hh, o1, vs1, by rw [Heap.get?_update_other _ _ (Ne.symm ne)]; exact h1, d1, c1⟩ fun e h' ty k => ?_
  refine wpAny_bind (wpAny_isInstance (T := "StopIteration") (b := true) ty isSubtype_stop ?_)
  exact wpAny_pure (hQ _ fun b u hb hu => k b u (by rw [Heap.get?_update_other _ _ (Ne.symm hb)]; exact hu))
/-- a pair, taken apart -/
theorem assign_tup_hot {env : PySem.Env} {elts : List Expr} {k : Nat} {pos : Pos} {t x1 : Addr} {items : Array Value} {Q : Unit → Shared → Prop} (hot : HotAt A x1 s.heap) (ht : IsTup s.heap t items) (hn : (assignEach elts env).length = items.size) (hstar : (assignEach elts env).findIdx? (·.1) = none)
    (h : ∀ h', Heap.ExtBut s.heap.objs.size s.heap h' → wpAny (model prog w) A (assignInOrder ((assignEach elts env).map (·.2)) items.toList) Q E { s with heap := h' }) : wpAny (model prog w) A (assign (.Tuple elts k pos) env (.ref t)) Q E s := by
  rw [assign_Tuple]
  apply wpAny_bind
  apply wpAny_standAt
  unfold unpack
  rw [hn, hstar]
  apply wpAny_bind
  apply wpAny_holding
  have tl : t < s.heap.objs.size := by
    obtain ⟨o, ho, _⟩ := ht
    exact Heap.lt_size ho
  obtain ⟨hh, o1, vs1, h1, d1, c1⟩ := hot
  have xl : x1 < s.heap.objs.size := Heap.lt_size h1
  unfold unpackItems notIterableAtAll
  apply wpAny_bind
  apply wpAny_bind
  apply wpAny_specialOf ht.typeIs slot_tuple_iter.lookup
  apply wpAny_pure
  simp only [Bool.false_eq_true, if_false]
  apply wpAny_bind
  apply wpAny_holding
  apply iter_tuple ht
  apply wpAny_bind
  apply wpAny_holding
  refine draw_tuple (Nat.ne_of_lt tl) items.size 0 _ _ ⟨_, Heap.get?_push_size _ rfl, rfl, rfl⟩ (ht.push _) (by omega) fun g it1 sb => ?_
  have all : List.take items.size (List.drop 0 items.toList) = items.toList := by rw [List.drop_zero]; exact List.take_of_length_le (by simp)
  rw [all, if_neg (by simp)]
  have z1 : g.get? x1 = some o1 := sb.extBut x1 o1 (Nat.ne_of_lt xl) (Heap.get?_push_of_some _ h1)
  apply wpAny_bind
  apply wpAny_holding
  refine tup_end_hot (x1 := x1) ⟨hh, o1, vs1, z1, d1, c1⟩ (Nat.ne_of_lt xl) it1 ((ht.push _).extBut sb.extBut (Nat.ne_of_lt tl)) (by simp) fun g2 e2 => ?_
  simp only [Option.isSome_none, Bool.false_eq_true, if_false]
  exact wpAny_pure (h g2 fun b o hb e => e2 b o hb (sb.extBut b o hb (Heap.get?_push_of_some _ e)))
end
end NL
end
section
set_option Elab.async false
set_option linter.all false
set_option maxRecDepth 100000
set_option maxHeartbeats 4000000
/-! A list comprehension while an exception is held. -/
namespace NL
open PySem PySem.Spec PyProof.Rows L2 HotX

/-- x1 is held, and stands apart -/
structure HotS (X : Cx) (x1 : Addr) : Prop where
  hd : X.A.handled = some (.ref x1)
  at_ : ∀ pins σ H s, Inv X pins σ H s → H x1 = none ∧ ∃ (o : Obj) (vs : Array Value), s.heap.get? x1 = some o ∧ o.data = .fields vs ∧ vs[2]? = some .none
theorem HotS.hot {X : Cx} {x1 : Addr} {pins : List (Addr × Obj)} {σ : L2.St} {H : Hp} {s : Shared} (h : HotS X x1) (I : Inv X pins σ H s) : HotAt X.A x1 s.heap := ⟨h.hd, (h.at_ pins σ H s I).2⟩
theorem hot_suite {Y : Cx} {b : Addr} {oe : Obj} {pn : List (Addr × Obj)} (hc : PXN.CtxN oe) (hf : ∃ vs, oe.data = .fields vs) : HotS (Y.suite b ((b, oe) :: pn)) b :=
  ⟨rfl, fun pins σ H s I => let ⟨e, n, _⟩ := I.pin (b, oe) (List.mem_append_left _ List.mem_cons_self); let ⟨vs, hv⟩ := hf; ⟨n, oe, vs, e, hv, hc vs hv⟩⟩
theorem hot_blk {X : Cx} {x1 : Addr} {pins : List (Addr × Obj)} {σ : L2.St} {H : Hp} {s : Shared} {scope : Scope} {ce : PySem.Env} {fp : List Addr} (h : HotS X x1) (I : Inv X pins σ H s) (nf : x1 ∉ fp) : HotS (X.blk s H scope ce fp) x1 :=
  ⟨h.hd, fun p2 τ H' s' J => by
    obtain ⟨n, o, vs, e, hv, h2⟩ := h.at_ _ _ _ _ I
    obtain ⟨sl, e2⟩ := J.base.any e n nf
    exact ⟨J.base.free x1 o e n nf, _, vs, e2, hv, h2⟩⟩
theorem pg_tupH {X : Cx} {x1 : Addr} {es : List Expr} {k n : Nat} {t : TGs} {pos : Pos} (hot : HotS X x1) (h : PGs X es t) (hn : (assignEach es X.env).length = n) (hst : (assignEach es X.env).findIdx? (·.1) = none) : PG X (.Tuple es k pos) (gTup X.K n t) := by
  constructor
  intro pins s σ H v u Q I r hw
  obtain ⟨a, xs, rfl, hq, hl, hw⟩ := hw
  cases r
  obtain ⟨its, rv, ht, hz⟩ := I.tuple hq
  refine assign_tup_hot (hot.hot I) ht (by simp [hn, ← hl, rv.length]) hst fun g eb => ?_
  exact h.run pins _ σ H xs _ Q (I.kept (t' := s.toks) fun b o e => eb b o (Nat.ne_of_lt (Heap.lt_size e)) e) (by simpa using rv) hw
/-- the list's iterator, on its way -/
theorem item_at {X : Cx} {a it : Addr} {i : Nat} {tg : Expr} {pins : List (Addr × Obj)} {s : Shared} {σ : L2.St} {H : Hp} {E : Value → Shared → Prop} (I : Inv X pins σ H s) (f : FpOk X pins H it) (st : s.heap.IsListIter it a i) (go : (Itl X.K a).go i H) :
    wpAny (model X.prog X.w) X.A (pyNext (.ref it)) (fun r s1 => ∃ u, r = some u ∧ wpAny (model X.prog X.w) X.A (letOwnedTupleGo tg (.ref it) u) (fun _ s2 => ∃ x, Inv X pins σ H s2 ∧ RelV x u ∧ (Itl X.K a).yld i H x H ∧ s2.heap.IsListIter it a (i + 1)) E s1) E s := by
  obtain ⟨xs, x, hq, hx⟩ := go
  obtain ⟨its, rv, p, hz⟩ := I.list hq
  obtain ⟨u, hu, ru⟩ := rv.get hx
  refine wpAny_pyNext_list_item st p.isList (x := u) (by simpa using hu) fun g st' sb => ?_
  have I1 : Inv X pins σ H { s with heap := g } := I.turned (t' := s.toks) (fun b o hb e => (sb.2 b hb).trans e) f.1 f.2.1 f.2.2.2.1 f.2.2.2.2.1 f.2.2.2.2.2
  obtain ⟨o, e, c, d⟩ := id st'
  exact ⟨u, rfl, go_of (s := { s with heap := g }) e c d (by decide) ⟨x, I1, ru, ⟨rfl, fun ys hy => by rw [I.list_inj hy hq]; exact hx⟩, st'⟩⟩
theorem done_at {X : Cx} {x1 a it : Addr} {i : Nat} {pins : List (Addr × Obj)} {s : Shared} {σ : L2.St} {H : Hp} {E : Value → Shared → Prop} (hot : HotS X x1) (ne : x1 ≠ it) (I : Inv X pins σ H s) (f : FpOk X pins H it) (st : s.heap.IsListIter it a i) (stp : (Itl X.K a).stop i H) :
    wpAny (model X.prog X.w) X.A (pyNext (.ref it)) (fun r s1 => r = none ∧ Inv X pins σ H s1) E s := by
  obtain ⟨xs, hq, hx⟩ := stp
  obtain ⟨its, rv, p, hz⟩ := I.list hq
  have hl := rv.length
  exact list_end_hot (hot.hot I) ne st p.isList (by simp; omega) fun g eb => ⟨rfl, I.turned (t' := s.toks) (fun b o hb e => eb b o hb e) f.1 f.2.1 f.2.2.2.1 f.2.2.2.2.1 f.2.2.2.2.2⟩
section
variable {X : Cx} {x1 : Addr}
theorem pe_lcH {elt tg iter : Expr} {ifs : List Expr} {scope : Scope} {own : List (Str × Nat)} {pos : Pos} {tl : TE} {g : TG} {tt : TT} {te : TE} (hot : HotS X x1) (nd : X.N.Nodup) (hl : PE X iter tl) (ok : BlkOk X.N X.env.scope scope own)
    (hg : ∀ s H C cl fp, HotS (X.blk s H scope (compEnvC scope cl C X.env) fp) x1 → PG (X.blk s H scope (compEnvC scope cl C X.env) fp) tg g) (ht : ∀ s H C cl fp, PTs (X.blk s H scope (compEnvC scope cl C X.env) fp) ifs tt)
    (he : ∀ s H C cl fp, PE (X.blk s H scope (compEnvC scope cl C X.env) fp) elt te) (hs : ∀ x, foldedSetIterable iter X.env x = pure x) : PE X (.ListComp elt [⟨tg, iter, ifs, 0⟩] scope pos) (tLc (iList X.K tl) g tt te (own.map (·.2))) := by
  constructor
  intro pins s σ H Q I h
  rw [eval_ListComp]
  have cap : ∀ y ∈ scope.names, y.2 = .free → ∃ c, X.env.cells.lookup y.1 = some c := fun y hy e => (ok.free y hy e).elim (fun k => I.ok.has _ (.inl k)) fun k => I.ok.has _ (.inr k)
  refine wpAny_comprehension_free (use := none) rfl hs (closure_ok cap) ok.kind (fun y hy e => by rw [ok.uniq y hy, e]) (thn (hl.run pins s σ H _ I h) fun xv sa hx => ?_)
  obtain ⟨xl, Ha, Ia, ra, a, rfl, ⟨xs, hq⟩, q⟩ := hx
  cases ra
  obtain ⟨its, rv, p, hz⟩ := Ia.list hq
  refine wpAny_pyIter_list p.isList ?_
  generalize eit : sa.heap.objs.size = it
  generalize eb : ({ sa with heap := sa.heap.push { cls := .type "list_iterator", data := .fields #[.ref a, .int 0 0] } } : Shared) = sb
  have Ib : Inv X pins σ Ha sb := by subst eb; exact Ia.kept (t' := sa.toks) fun b o e => Heap.get?_push_of_some _ e
  have stb : sb.heap.IsListIter it a 0 := by subst eb; subst eit; exact ⟨_, Heap.get?_push_size _ rfl, rfl, rfl⟩
  have fb : FpOk X pins Ha it := Ia.fpOk (Nat.le_of_eq eit) (Ia.hok.fresh (Nat.le_of_eq eit))
  have ne : x1 ≠ it := fun z => by
    obtain ⟨_, o, vs, e, _⟩ := hot.at_ _ _ _ _ Ia
    have y := Heap.lt_size e
    rw [z, ← eit] at y
    exact Nat.lt_irrefl _ y
  refine wpAny_newObj_type (newEnv_comp ?_) (by show 0 ≤ sizeLine; decide)
  generalize eD : sb.heap.objs.size = D
  have nD : Ha D = none := Ib.hok.fresh (Nat.le_of_eq eD)
  obtain ⟨W, ⟨m0, w0⟩, turn⟩ := q D nD
  generalize eT : ({ sb with heap := sb.heap.push { cls := .type "list", data := .seq ([] : List Value).toArray } } : Shared) = sT
  have IT : Inv X pins σ (upd Ha D (.lst [])) sT := by
    subst eT
    refine Ib.laid (t' := sb.toks) (fun b u e => Heap.get?_push_of_some _ e) (Nat.le_of_eq eD) ⟨Nat.zero_le _, [], 0, .nil, ?_⟩
    subst eD
    exact Heap.get?_push_size _ rfl
  have hT : sT.heap = sb.heap.push { cls := .type "list", data := .seq ([] : List Value).toArray } := by subst eT; rfl
  have itl : it < sb.heap.objs.size := by
    obtain ⟨o, e, _⟩ := stb
    exact Heap.lt_size e
  have fT : ∀ b ∈ [it], FpOk X pins (upd Ha D (.lst [])) b ∧ b < sT.heap.objs.size := fun b hb => by
    obtain rfl : b = it := by simpa using hb
    exact ⟨⟨by rw [upd_ne (fun z => by rw [z, ← eD] at itl; exact Nat.lt_irrefl _ itl)]; exact fb.1, fb.2⟩, by rw [hT, Heap.size_push]; exact Nat.lt_succ_of_lt itl⟩
  have stT : sT.heap.IsListIter it a 0 := stb.at fun o e => by rw [hT]; exact Heap.get?_push_of_some _ e
  have Iblk := block_start IT ok nd fT
  generalize hcl : cellsFrom (sT.heap.objs.size + 1) scope.names (cloFrom X.env.cells scope.names []) = cl at Iblk
  have hotB := hot_blk (scope := scope) (ce := compEnvC scope cl sT.heap.objs.size X.env) (fp := [it]) hot IT (by simpa using ne)
  have pg := hg sT (upd Ha D (.lst [])) sT.heap.objs.size cl [it] hotB
  have pt := ht sT (upd Ha D (.lst [])) sT.heap.objs.size cl [it]
  have pe := he sT (upd Ha D (.lst [])) sT.heap.objs.size cl [it]
  have free0 : (upd Ha D (.lst [])) it = none := (fT it (by simp)).1.1
  show codeAny _ _ (.compStart (.ListComp elt [⟨tg, iter, ifs, 0⟩] scope pos) 0 (.ref it) (.ref D) (compEnvC scope cl sT.heap.objs.size X.env)) (compPost (model X.prog X.w) X.A X.xe none (EP X pins σ Q) (.ref D) sT.heap.objs.size) { sT with heap := pushCells (sT.heap.push { cls := .type "dict", data := .dict #[] }) scope.names }
  generalize ece : compEnvC scope cl sT.heap.objs.size X.env = ce at Iblk pg pt pe hotB ⊢
  have locC : ce.locals = sT.heap.objs.size := by subst ece; rfl
  generalize eH : upd Ha D (.lst []) = HT at IT Iblk pg pt pe w0 free0 fT hotB
  generalize eU : ({ sT with heap := pushCells (sT.heap.push { cls := .type "dict", data := .dict #[] }) scope.names } : Shared) = sU at Iblk ⊢
  have stU : sU.heap.IsListIter it a 0 := stT.at fun o e => by subst eU; exact pushCells_keeps _ _ _ _ (Heap.get?_push_of_some _ e)
  have stat : ∀ {σ' : L2.St} {H' : Hp} {s' : Shared}, Inv (X.blk sT HT scope ce [it]) [] σ' H' s' → H' it = none → FpOk (X.blk sT HT scope ce [it]) [] H' it := fun {σ' H' s'} J hn =>
    have hb : it ∈ [it] := by simp
    ⟨hn, (J.ok.exf it hb).1, J.ok.exfs it hb, .inl hb, fun x c e => (J.ok.exf it hb).2 x c e, fun p hp => by cases (show p ∈ ([] : List (Addr × Obj)) from hp)⟩
  have loop : codeAny (model X.prog X.w) X.A (.compLoop (.ListComp elt [⟨tg, iter, ifs, 0⟩] scope pos) 0 (.ref it) (.ref D) ce) (compPost (model X.prog X.w) X.A X.xe none (EP X pins σ Q) (.ref D) sT.heap.objs.size) sU := by
    refine compLoop_any (fun n s' => ∃ i H', Inv (X.blk sT HT scope ce [it]) [] (wipe σ (own.map (·.2))) H' s' ∧ s'.heap.IsListIter it a i ∧ H' it = none ∧ W i n H') (fun n sc hsc => ?_) m0 ⟨0, HT, Iblk, stU, free0, w0⟩
    obtain ⟨i, Hc, Ic, stc, nc, wc⟩ := hsc
    rcases turn i n Hc wc with ⟨stp, qq⟩ | ⟨go, Nx, hNx, step⟩
    · refine thnF (done_at (X := X.blk sT HT scope ce [it]) (E := fun _ _ => False) hotB ne Ic (stat Ic nc) stc stp) fun r sd ⟨hr, Id⟩ => ?_
      subst hr
      have Ie : Inv X pins σ Hc sd := IT.call' (ch := [it]) Id.os Id.base Id.hok Id.bare fun b hb => let z := (fT b hb).1.2; ⟨z.2.2.1, z.1, z.2.2.2.1, z.2.2.2.2⟩
      have nL : Hc sT.heap.objs.size = none := locC ▸ (show Hc ce.locals = none from Id.free)
      obtain ⟨m, hn, _⟩ := Id.loc
      have f := IT.fpOk (Nat.le_refl _) nL
      exact ⟨m, locC ▸ (show sd.heap.Ns ce.locals m from hn), fun h2 sb2 => ⟨.ref D, Hc, Ie.turned (t' := sd.toks) (fun b u hb e => (sb2.2 b hb).trans e) f.1 f.2.1 f.2.2.2.1 f.2.2.2.2.1 f.2.2.2.2.2, rfl, qq⟩⟩
    · refine thnF (item_at (X := X.blk sT HT scope ce [it]) (E := fun _ _ => False) (tg := tg) Ic (stat Ic nc) stc go) fun r sd ⟨u, hr, hd⟩ => ?_
      subst hr
      refine thnF hd fun _ se ⟨x, Ie, re, ye, ste⟩ => ?_
      have Ip := Ie.pinned (fp := [it]) (fun b hb => by rw [List.mem_singleton.mp hb]; exact stat Ie nc) (fun b hb => by rw [List.mem_singleton.mp hb]; obtain ⟨o, e, c, d⟩ := id ste; exact ⟨o, e, fun v z => by rw [d] at z; cases z⟩)
      refine thnF (pg.run _ se _ Hc x u _ Ip re (step x Hc ye)) fun _ sf ⟨σf, Hf, If, wf, qf⟩ => ?_
      refine thnF (pt.run _ sf σf Hf _ If qf) fun b sg ⟨Hg, Ig, qg⟩ => ?_
      have fin : ∀ {s' : Shared} {H' : Hp}, Inv (X.blk sT HT scope ce [it]) ([] ++ pinsAt [it] se.heap) σf H' s' → Nx H' → ∃ m, m < n ∧ ∃ i H', Inv (X.blk sT HT scope ce [it]) [] (wipe σ (own.map (·.2))) H' s' ∧ s'.heap.IsListIter it a i ∧ H' it = none ∧ W i m H' := fun {s' H'} Iz nx => by
        obtain ⟨m', hm, w'⟩ := hNx H' nx
        have pin' : ∀ u, se.heap.get? it = some u → s'.heap.get? it = some u ∧ H' it = none := fun u e => let z := Iz.pin (it, u) (List.mem_append_right _ (List.mem_append_right _ (mem_pinsAt (by simp) e))); ⟨z.1, z.2.1⟩
        obtain ⟨o, e, _⟩ := id ste
        exact ⟨m', hm, i + 1, H', (Iz.unpinned (pins := [])).weak (by rw [← wf, wipe_length]) (fun j v e => (wipe_some (by rw [wf]; exact e)).1), ste.at fun u e => (pin' u e).1, (pin' o e).2, w'⟩
      cases b with
      | false =>
        simp only [Bool.false_eq_true, if_false] at qg ⊢
        exact fin Ig qg
      | true =>
        simp only [if_true] at qg ⊢
        refine thnF (pe.run _ sg σf Hg _ Ig qg) fun zk sh ⟨yk, Hh, Ih, rh, acc, hD, hz2, nx⟩ => ?_
        exact app_ok (X := X.blk sT HT scope ce [it]) Ih hD hz2 rh fun si Ii => fin Ii nx
  exact codeAny_compStart_list loop (wpAny_pyIter_listiter stU loop)
end
/-! ### readings -/
section
variable {γ : Gc} {E : XK} {fa : FE} {ta : TE}
theorem ri_ls (ha : RdE γ E fa ta) : RdI γ E (sLs fa) (iList γ.K ta) := by
  intro w st a σ H R c ce h
  have hsub := c.sub
  refine ha w st a σ H _ c ce (Good.bind h fun x s1 u H1 e1 c1 r1 h1 => ?_)
  cases x with
  | d d =>
    cases d with
    | list xs =>
      cases r1 with
      | lst h2 n2 f2 =>
      rename_i b vs
      refine ⟨b, rfl, ⟨vs, SqL.of h2⟩, h1 _ H1 (Ext.refl _ _) c1 (itl_of (xs := vs) (fun w' H' g e => ⟨SqL.of (ext_at e hsub n2 h2 fun _ z => (nomatch z)), fun i x hx => ?_⟩) (by rw [List.length_map, f2.length]))⟩
      obtain ⟨v, d, k1, rfl, k2⟩ := fds_mapd f2 hx
      exact ⟨v, k1, FD.grow g e hsub k2⟩
    | _ => exact h1.elim
  | r l =>
    obtain ⟨b, hb, rfl⟩ := r1
    obtain ⟨z, ez, h2⟩ := lift_ok h1
    simp only [srcOf] at ez
    split at ez
    · rename_i ys el
      cases ez
      obtain ⟨vs, k1, f1⟩ := c1.cell _ _ _ hb el
      exact ⟨b, rfl, ⟨vs, SqL.of k1⟩, h2 _ H1 (Ext.refl _ _) c1 (cell_src hb)⟩
    · cases ez
  | c _ => exact h1.elim
  | z _ => exact h1.elim
  | e _ => exact h1.elim
theorem strs_ok {K : PySem.W.Frag} {rh : Addr → Prop} {H : Hp} : ∀ {ds : List PyData} {vs : List V} {ys : List Str}, FDs K rh H vs ds → strsOf ds = some ys → vs = ys.map V.str
  | [], _, _, .nil, e => by cases e; rfl
  | .str x :: ds, _, _, .cons (.str _) t, e => by
    obtain ⟨zs, hz, rfl⟩ := Option.map_eq_some_iff.mp e
    rw [strs_ok t hz]
    rfl
/-- text.join(..) -/
def rJoin (K : PySem.W.Frag) : V → List V → Hp → VK → Prop := fun x xs H Q => ∃ a p, ∃ ys : List Str, x = .str a ∧ xs = [.ref p] ∧ (SqL K H p (ys.map V.str) ∨ SqT K H p (ys.map V.str)) ∧ (ys.map (·.length)).sum + ys.length * a.length ≤ 16777216 ∧ Q (.str (Txt.join a ys)) H
theorem rd_join {x : Str} (ha : RdE γ E fa ta) : RdE γ E (eJoin x fa) (tM1 (rJoin γ.K) (tC (.str x)) ta) := by
  intro w st a σ H Q c ce h
  refine ⟨⟨x, rfl⟩, ha w st a σ H _ c ce (Good.bind h fun v s1 u H1 e1 c1 r1 h1 => ?_)⟩
  obtain ⟨z, ez, h2⟩ := lift_ok h1
  unfold joinV at ez
  split at ez
  · rename_i ds eds
    split at ez
    · rename_i ys eys
      split at ez
      · rename_i hz
        cases ez
        obtain ⟨b, vs, rfl, hb, f⟩ := sq_at c1 r1 eds
        have ev := strs_ok f eys
        subst ev
        exact ⟨x, b, ys, rfl, rfl, sq_sq hb, hz, h2 _ H1 (Ext.refl _ _) c1 (.str _)⟩
      · cases ez
    · cases ez
  · cases ez
end
end NL
end
section
set_option Elab.async false
set_option linter.all false
set_option maxRecDepth 100000
set_option maxHeartbeats 4000000
/-! Contexts in which the text means what it says. -/
namespace NL
open PySem PySem.Spec PyProof.Rows L2

def bltNames : List Str := ["len", "int", "max", "min", "abs", "tuple", "list", "sorted", "repr", "dict", "isinstance", "range", "enumerate", "bool", "str", "ValueError"]
structure Hx (X : Cx) (γ : Gc) (E : XK) (k : Nat) (c : Cfg) : Prop where
  g : γ.Ok
  K : X.K = γ.K
  N : X.N = c.N
  nd : c.N.Nodup
  sc : X.env.scope = c.sc
  kind : c.sc.kind = .function
  calm : c.hot = false → X.calm = true
  un : X.A.units + 64 < cLine
  room : c.hot = false → Room k X.A
  grd : c.grd = true → X.A.guards = some []
  free : ∀ x ∈ bltNames, X.mg x = none
  sets : ∀ x i, c.sx x = some i → X.fn x = true ∨ X.env.scope.names.lookup x = some .local
  fns : c.hot = false → ∀ x d, c.fns x = some d → CalG X.prog X.w X.K X.mg X.base γ c.grd k x d
  fnsL : c.hot = false → ∀ x d, c.fnsL x = some d → CalG X.prog X.w X.K X.mg X.base γ false k x d
  cst : ∀ x i, c.cst x = some i → ∃ t, X.mg x = some (.int i t)
  pass : Passes (L2N.CX X.prog X.w) X E
def SE (X : Cx) (γ : Gc) (E : XK) (e : Expr) (f : FE) : Prop := ∃ t, PE X e t ∧ RdE γ E f t
def ST (X : Cx) (γ : Gc) (E : XK) (e : Expr) (f : FT) : Prop := ∃ t, PT X e t ∧ RdT γ E f t
/-- a comprehension that is stored under a name at once -/
def Stored (X : Cx) (e : Expr) (t : TE) : Prop := isComp e = true → ∀ (i : Nat) (y : Str) (py pos : Pos), X.N[i]? = some y → X.env.scope.names.lookup y = some .local → swapsWith e (some (.Name y py)) pos.line X.env = pure true → PS X (.Assign [.Name y py] e pos) (tAsg t (gName i))
def SN (X : Cx) (γ : Gc) (E : XK) (e : Expr) (f : FN) : Prop := ∃ t, PE X e t ∧ RdN γ E f t ∧ Stored X e t
def SA (X : Cx) (γ : Gc) (E : XK) (es : List Expr) (f : FA) : Prop := ∃ t, PA X es t ∧ RdA γ E f t
def SI (X : Cx) (γ : Gc) (E : XK) (tg e : Expr) (f : FSrc) : Prop := ∃ wi, PI X tg e wi ∧ RdI γ E f wi
def SG (X : Cx) (γ : Gc) (tg : Expr) (f : FG) (own : List Nat) : Prop := ∃ g, PG X tg g ∧ RdG γ f g own
/-- what is told of the exception that is held -/
structure Held (X : Cx) (γ : Gc) (E : XK) (c : Cfg) : Prop where
  is_ : ∀ v n d, c.exv = some (v, n, d) → ∀ T ∈ c.exs, c.gl T = true → c.gl "isinstance" = true → ∀ p q r pos, SE X γ E (.Call (.Name "isinstance" p) [.Name v q, .Name T r] [] pos) (excIs c n v T)
  get : ∀ v n d, c.exv = some (v, n, d) → ∀ q pos, SE X γ E (.Attribute (.Name v q) "what" pos) (excGet c d v)
  hotx : c.exv.isSome = true → ∃ x1, HotS X x1
structure Hxt (X : Cx) (γ : Gc) (E : XK) (k : Nat) (c : Cfg) : Prop where
  h : Hx X γ E k c
  told : ∀ x f, c.told x = some f → c.hot = false → c.gl x = true → ∀ a body scope lpos p pos (b : FE), noArgs a = true → LamX.lamSB c.sc scope = true → (∀ X' E' k', Hx X' γ E' k' (c.lam scope) → k ≤ k' + 2 → SE X' γ E' body b) →
    SE X γ E (.Call (.Name x p) [.Lambda a body scope lpos] [] pos) (fun e st => f (b e st))
  held : Held X γ E c
section
variable {X : Cx} {γ : Gc} {E : XK} {k : Nat} {c : Cfg}
theorem pe_stop {e : Expr} : PE X e (fun _ _ _ => False) := ⟨fun _ _ _ _ _ _ h => h.elim⟩
theorem pt_stop {e : Expr} : PT X e (fun _ _ _ => False) := ⟨fun _ _ _ _ _ _ h => h.elim⟩
theorem pa_stop {es : List Expr} : PA X es (fun _ _ _ => False) := ⟨fun _ _ _ _ _ _ _ h => h.elim⟩
theorem pi_stop {tg e : Expr} : PI X tg e (fun _ _ _ => False) := ⟨fun _ _ _ _ _ _ h => h.elim⟩
theorem se_stop {e : Expr} : SE X γ E e stop := ⟨_, pe_stop, rd_stop⟩
theorem st_stop {e : Expr} : ST X γ E e stop := ⟨_, pt_stop, fun _ _ _ _ _ _ _ _ h => h.elim⟩
theorem sn_stop {e : Expr} : SN X γ E e stop := ⟨fun _ _ _ => False, pe_stop, fun _ _ _ _ _ _ _ _ h => h.elim, fun _ _ _ _ _ _ _ _ => ⟨fun _ _ _ _ _ _ h => h.elim⟩⟩
theorem stored_no {e : Expr} {t : TE} (h : isComp e = false) : Stored X e t := fun z => by rw [h] at z; cases z
theorem sa_stop {es : List Expr} : SA X γ E es stop := ⟨_, pa_stop, fun _ _ _ _ _ _ _ _ h => h.elim⟩
theorem si_stop {tg e : Expr} : SI X γ E tg e stop := ⟨_, pi_stop, fun _ _ _ _ _ _ _ _ h => h.elim⟩
theorem find_ix {N : List Str} {x : Str} {i : Nat} (h : N.findIdx? (fun y => decide (y = x)) = some i) : N[i]? = some x := by
  rw [List.findIdx?_eq_some_iff_getElem] at h
  obtain ⟨h1, h2, _⟩ := h
  rw [List.getElem?_eq_getElem h1, of_decide_eq_true h2]
theorem ix_ok {x : Str} {i : Nat} (h : c.ix x = some i) : Vis c.sc x ∧ c.N[i]? = some x ∧ x ≠ "__debug__" ∧ x ≠ "__classdict__" := by
  unfold Cfg.ix at h
  split at h
  · rename_i q
    exact ⟨q.1, find_ix h, q.2⟩
  · cases h
theorem sx_ok {x : Str} {i : Nat} (h : c.sx x = some i) : c.ix x = some i ∧ c.sets.contains i = true ∧ Loc c.sc x := by
  unfold Cfg.sx at h
  split at h
  · split at h
    · rename_i q
      cases h
      exact ⟨by assumption, q⟩
    · cases h
  · cases h
theorem gl_ok {x : Str} (h : c.gl x = true) : c.sc.names.lookup x = some .globalImplicit ∧ x ≠ "__debug__" ∧ x ≠ "__name__" := of_decide_eq_true h
theorem nbeq {x y : Str} (h : x ≠ y) : (x == y) = false := beq_eq_false_iff_ne.mpr h
theorem Hx.gl (h : Hx X γ E k c) {x : Str} (e : c.gl x = true) : Gl X x := by
  show X.env.scope.names.lookup x = _
  rw [h.sc]
  exact (gl_ok e).1
theorem Hx.vis (h : Hx X γ E k c) {x : Str} {i : Nat} (e : c.ix x = some i) : X.N[i]? = some x ∧ Vis X.env.scope x := by
  obtain ⟨h1, h2, _⟩ := ix_ok e
  rw [h.N, h.sc]
  exact ⟨h2, h1⟩
theorem Hx.blt (h : Hx X γ E k c) {x : Str} (m : bltNames.contains x = true) : X.mg x = none := h.free x (List.contains_iff_mem.mp m)
/-! ### names, constants -/
theorem se_name (h : Hx X γ E k c) (x : Str) (pos : Pos) : SE X γ E (.Name x pos) (nameE c x) := by
  unfold nameE
  split
  · rename_i i e
    obtain ⟨h1, h2⟩ := h.vis e
    obtain ⟨_, _, n1, n2⟩ := ix_ok e
    exact ⟨_, pe_var h1 h2 (nbeq n1) (nbeq n2), rd_var⟩
  · split
    · rename_i hg
      split
      · rename_i i e
        obtain ⟨t, ht⟩ := h.cst x i e
        exact ⟨_, pe_glob (v := .int i) (h.gl hg) ht ⟨t, rfl⟩ (nbeq (gl_ok hg).2.1), rd_c fun _ _ => .int i⟩
      · exact se_stop
    · exact se_stop
theorem se_const (k' : Const) (j : Nat) (pos : Pos) : SE X γ E (.Constant k' j pos) (consE k') := by
  cases k' with
  | int i => exact ⟨_, pe_int, rd_c fun _ _ => .int i⟩
  | bool b => exact ⟨_, pe_bl, rd_c fun _ _ => .bl b⟩
  | none => exact ⟨_, pe_non, rd_c fun _ _ => .non⟩
  | str x => exact ⟨_, pe_str, rd_c fun _ _ => .str x⟩
  | float _ => exact se_stop
  | complex _ _ => exact se_stop
  | bytes _ => exact se_stop
  | ellipsis => exact se_stop
/-! ### argument lists -/
theorem star1 {e : Expr} {es : List Expr} {env : PySem.Env} (h : isStar e = false) : starEach (e :: es) env = (false, eval e env) :: starEach es env := by
  cases e <;> first | rfl | cases h
theorem starN {env : PySem.Env} {pos : Pos} : ∀ {es : List Expr}, es.any isStar = false → (backTo pos (starEach es env)).any (·.1) = false
  | [], _ => rfl
  | e :: es, h => by
    rw [List.any_cons, Bool.or_eq_false_iff] at h
    rw [star1 h.1]
    unfold backTo
    rw [List.map_cons, List.any_cons]
    exact starN (pos := pos) h.2
theorem sa_cons {e : Expr} {es : List Expr} {f : FE} {g : FA} (hs : isStar e = false) (he : SE X γ E e f) (hr : SA X γ E es g) : SA X γ E (e :: es) (aCons f g) := by
  obtain ⟨t, p, r⟩ := he
  obtain ⟨u, q, s⟩ := hr
  exact ⟨_, pa_cons p q (star1 hs), ra_cons r s⟩
theorem sa_nil : SA X γ E [] aNil := ⟨_, pa_nil, ra_nil⟩
theorem sa_args {r : Ev} (S : ∀ e, SE X γ E e (r.e c e)) : ∀ (es : List Expr), es.any isStar = false → SA X γ E es (args r c es)
  | [], _ => sa_nil
  | e :: es, h => by
    rw [List.any_cons, Bool.or_eq_false_iff] at h
    exact sa_cons h.1 (S e) (sa_args S es h.2)
theorem sa_argsS {r : Ev} (S : ∀ e, SE X γ E e (r.e c e)) (K : X.K = γ.K) : ∀ (es : List Expr), SA X γ E es (argsS r c es)
  | [] => sa_nil
  | e :: es => by
    have ih := sa_argsS S K es
    by_cases h : isStar e = true
    · cases e with
      | Starred x p =>
        obtain ⟨t, q, s⟩ := S x
        obtain ⟨u, q2, s2⟩ := ih
        refine ⟨_, StX.pa_star q q2 rfl, ?_⟩
        rw [K]
        exact ra_star s s2
      | _ => cases h
    · have h' : isStar e = false := by simpa using h
      have key : argsS r c (e :: es) = aCons (r.e c e) (argsS r c es) := by
        cases e <;> first | rfl | cases h'
      rw [key]
      exact sa_cons h' (S e) ih
end
end NL
end
section
set_option Elab.async false
set_option linter.all false
set_option maxRecDepth 100000
set_option maxHeartbeats 4000000
/-! Expressions mean what they say. -/
namespace NL
open PySem PySem.Spec PyProof.Rows L2

section
variable {X : Cx} {γ : Gc} {E : XK} {k : Nat} {c : Cfg} {a b b' : Expr} {fa fb fb' : FE} {ta tb : FT} {pos : Pos}
theorem bin_ok (g : γ.Ok) (hK : X.K = γ.K) {op : Operator} {f : Store → AV → AV → Option AV} (h : binF op = some f) : ∃ r, OpR X (binaryOp op) r ∧ OpOk γ f r := by
  cases op <;> simp only [binF] at h <;> first | (cases h; done) | skip
  · cases h; exact ⟨_, by rw [← hK]; exact op_addA, fAdd_ok g⟩
  · cases h; exact ⟨_, op_sub, fSub_ok⟩
  · cases h; exact ⟨_, by rw [← hK]; exact op_mulA, fMul_ok g⟩
  · cases h; exact ⟨_, op_mod, fMod_ok⟩
  · cases h; exact ⟨_, op_pow, fPow_ok⟩
  · cases h; exact ⟨_, op_fdivW, fDiv_ok⟩
theorem cmp_ok (hu : X.A.units + 64 < cLine) (hK : X.K = γ.K) {op : CmpOp} {f : Store → AV → AV → Option AV} (h : cmpF op = some f) : ∃ r, OpR X (compareOp op) r ∧ OpOk γ f r := by
  cases op <;> simp only [cmpF] at h <;> first | (cases h; done) | skip
  · cases h; exact ⟨_, by rw [← hK]; exact op_eqA hu, fEq_ok⟩
  · cases h; exact ⟨_, by rw [← hK]; exact op_neA hu, fNe_ok⟩
  · cases h; exact ⟨_, by rw [← hK]; exact op_ltA hu, fLt_ok⟩
  · cases h; exact ⟨_, by rw [← hK]; exact op_leA hu, fLe_ok⟩
  · cases h; exact ⟨_, by rw [← hK]; exact op_gtA hu, fGt_ok⟩
  · cases h; exact ⟨_, by rw [← hK]; exact op_geA hu, fGe_ok⟩
  · cases h; exact ⟨_, by rw [← hK]; exact (op_inA hu).or (op_inK (by omega)), OpOk.one (inD_ok false) (inK_ok false)⟩
  · cases h; exact ⟨_, by rw [← hK]; exact (op_notInA hu).or (op_notInK (by omega)), OpOk.one (inD_ok true) (inK_ok true)⟩
theorem rd_is {d : PyData} {k : V} (neg : Bool) (hd : isK d = some k) {t : TE} (ha : RdE γ E fa t) : RdE γ E (eOp (fIs d neg) fa (eC d)) (tOp (rIsC k neg) t (tC k)) := by
  intro w st a σ H Q c ce h
  refine ha w st a σ H _ c ce (Good.bind h fun x s1 u H1 e1 c1 r1 h1 => ?_)
  exact fIs_ok neg hd w s1 H1 x (.d (.bool (if neg then !isB d x else isB d x))) u Q c1 r1 (.d d) rfl fun q H' e c' r => h1 q H' e c' r
/-- a comparison: as a value, as a test -/
def SC (X : Cx) (γ : Gc) (E : XK) (e : Expr) (f : FE) : Prop := ∃ t, PE X e t ∧ PT X e (tTest t) ∧ RdE γ E f t
theorem SC.e {e : Expr} {f : FE} (h : SC X γ E e f) : SE X γ E e f := let ⟨t, p, _, r⟩ := h; ⟨t, p, r⟩
theorem SC.t {e : Expr} {f : FE} (h : SC X γ E e f) : ST X γ E e (tOf f) := let ⟨_, _, q, r⟩ := h; ⟨_, q, rd_test r⟩
theorem sc_stop {e : Expr} : SC X γ E e stop := ⟨fun _ _ _ => False, pe_stop, pt_stop, rd_stop⟩
theorem isK_of {d : PyData} {kk : Const} (h : cD kk = some d) : ∃ v, isK d = some v ∧ ∀ (j : Nat) (p : Pos), PE X (.Constant kk j p) (tC v) := by
  cases kk <;> simp only [cD] at h <;> cases h
  · exact ⟨.non, rfl, fun _ _ => pe_non⟩
  · exact ⟨.bl _, rfl, fun _ _ => pe_bl⟩
theorem isop_ok {op : CmpOp} {neg : Bool} (h : isOp op = some neg) {d : PyData} {v : V} (hd : isK d = some v) : OpR X (compareOp op) (rIsC v neg) ∧ ∀ b, behindInMarks op b = false := by
  cases op <;> simp only [isOp] at h <;> cases h
  · exact ⟨op_isC hd, fun b => nobehind b (by decide) (by decide)⟩
  · exact ⟨op_isNotC hd, fun b => nobehind b (by decide) (by decide)⟩
variable {r : Ev}
theorem sc_1 (h : Hx X γ E k c) (S : ∀ e, SE X γ E e (r.e c e)) (op : CmpOp) : SC X γ E (.Compare a [op] [b] pos) (cmp1 r c a op b) := by
  unfold cmp1
  split
  · rename_i neg e1
    split
    · rename_i kk j p
      split
      · rename_i d e2
        obtain ⟨v, hv, hp⟩ := isK_of (X := X) e2
        obtain ⟨ho, hb⟩ := isop_ok (X := X) e1 hv
        obtain ⟨t, p1, r1⟩ := S a
        exact ⟨_, pe_cmpR ho p1 (hp j p) (hb _), pt_cmpR ho p1 (hp j p) (hb _), rd_is neg hv r1⟩
      · exact sc_stop
    · exact sc_stop
  · split
    · rename_i f e1
      split
      · rename_i hm
        obtain ⟨rr, ho, hf⟩ := cmp_ok (γ := γ) h.un h.K e1
        obtain ⟨t, p1, r1⟩ := S a
        obtain ⟨u, p2, r2⟩ := S b
        exact ⟨_, pe_cmpR ho p1 p2 hm, pt_cmpR ho p1 p2 hm, rd_op hf r1 r2⟩
      · exact sc_stop
    · exact sc_stop
theorem sc_2 (h : Hx X γ E k c) (S : ∀ e, SE X γ E e (r.e c e)) (op op' : CmpOp) : SC X γ E (.Compare a [op, op'] [b, b'] pos) (cmp2 r c a op op' b b') := by
  unfold cmp2
  split
  · rename_i f g e1 e2
    split
    · rename_i hm
      obtain ⟨rr, ho, hf⟩ := cmp_ok (γ := γ) h.un h.K e1
      obtain ⟨rr', ho', hf'⟩ := cmp_ok (γ := γ) h.un h.K e2
      obtain ⟨t, p1, r1⟩ := S a
      obtain ⟨u, p2, r2⟩ := S b
      obtain ⟨v, p3, r3⟩ := S b'
      exact ⟨_, pe_chain ho ho' p1 p2 p3 hm, pt_chain ho ho' p1 p2 p3 hm, rd_chain hf hf' r1 r2 r3⟩
    · exact sc_stop
  · exact sc_stop
theorem sc_cmp (h : Hx X γ E k c) (S : ∀ e, SE X γ E e (r.e c e)) (ops : List CmpOp) (bs : List Expr) : SC X γ E (.Compare a ops bs pos) (cmpE r c a ops bs) := by
  unfold cmpE
  split
  · exact sc_1 h S _
  · exact sc_2 h S _ _
  · exact sc_stop
/-! ### and, or -/
theorem se_and (S : ∀ e, SE X γ E e (r.e c e)) : ∀ es : List Expr, SE X γ E (.BoolOp .And es pos) (foldAnd r c es)
  | [] => se_stop
  | [e] => let ⟨t, p, q⟩ := S e; ⟨t, pe_one p, q⟩
  | e :: e2 :: es => by
    obtain ⟨t, p, q⟩ := S e
    obtain ⟨u, p2, q2⟩ := se_and S (e2 :: es)
    exact ⟨_, pe_and p p2, rd_and q q2⟩
theorem se_or (S : ∀ e, SE X γ E e (r.e c e)) : ∀ es : List Expr, SE X γ E (.BoolOp .Or es pos) (foldOr r c es)
  | [] => se_stop
  | [e] => let ⟨t, p, q⟩ := S e; ⟨t, pe_one p, q⟩
  | e :: e2 :: es => by
    obtain ⟨t, p, q⟩ := S e
    obtain ⟨u, p2, q2⟩ := se_or S (e2 :: es)
    exact ⟨_, pe_or p p2, rd_or q q2⟩
def SW' (X : Cx) (γ : Gc) (E : XK) (e : Expr) (f : FT) : Prop := ∃ t, PW X e t ∧ RdT γ E f t
theorem SW'.t {e : Expr} {f : FT} (h : SW' X γ E e f) : ST X γ E e f := let ⟨t, p, r⟩ := h; ⟨t, p.pt, r⟩
theorem sw_and (S : ∀ e, ST X γ E e (r.t c e)) : ∀ es : List Expr, SW' X γ E (.BoolOp .And es pos) (foldAndT r c es)
  | [] => ⟨fun _ _ _ => False, ⟨fun _ _ _ _ _ _ _ h => h.elim⟩, fun _ _ _ _ _ _ _ _ h => h.elim⟩
  | [e] => let ⟨t, p, q⟩ := S e; ⟨t, pw_and1 p, q⟩
  | e :: e2 :: es => by
    obtain ⟨t, p, q⟩ := S e
    obtain ⟨u, p2, q2⟩ := sw_and S (e2 :: es)
    exact ⟨_, pw_and p p2, rd_tAnd q q2⟩
theorem sw_or (S : ∀ e, ST X γ E e (r.t c e)) : ∀ es : List Expr, SW' X γ E (.BoolOp .Or es pos) (foldOrT r c es)
  | [] => ⟨fun _ _ _ => False, ⟨fun _ _ _ _ _ _ _ h => h.elim⟩, fun _ _ _ _ _ _ _ _ h => h.elim⟩
  | [e] => let ⟨t, p, q⟩ := S e; ⟨t, pw_or1 p, q⟩
  | e :: e2 :: es => by
    obtain ⟨t, p, q⟩ := S e
    obtain ⟨u, p2, q2⟩ := sw_or S (e2 :: es)
    exact ⟨_, pw_or p p2, rd_tOr q q2⟩
/-! ### subscripts -/
theorem so_opt (S : ∀ e, SE X γ E e (r.e c e)) (o : Option Expr) : ∃ t, PO X o t ∧ RdO γ E (optE r c o) t := by
  cases o with
  | none => exact ⟨_, po_none, ro_none⟩
  | some e =>
    obtain ⟨t, p, q⟩ := S e
    exact ⟨_, po_some p, ro_some q⟩
theorem plain_ok {i : Expr} (h : plainIx i = true) : PlainIx i := by
  cases i <;> first | (cases h; done) | (intro o v; rfl)
theorem se_sub (h : Hx X γ E k c) (S : ∀ e, SE X γ E e (r.e c e)) (i : Expr) : SE X γ E (.Subscript a i pos) (subE r c a i) := by
  obtain ⟨t, p, q⟩ := S a
  unfold subE
  split
  · rename_i lo hi p2
    obtain ⟨tl, pl, rl⟩ := so_opt S lo
    obtain ⟨th, ph, rh⟩ := so_opt S hi
    refine ⟨_, pe_slice sl_any p pl ph, ?_⟩
    rw [h.K]
    exact rd_sl h.g q rl rh
  · rename_i kk p2
    split
    · rename_i hk
      unfold isOne at hk
      split at hk
      · rename_i i j p3 p4
        obtain rfl : i = 1 := of_decide_eq_true hk
        refine ⟨fun σ H Q => tRevL γ.K t σ H Q ∨ tRevT γ.K t σ H Q, ⟨fun pins s σ H Q I w => ?_⟩, rd_rev h.g q⟩
        rw [← h.K] at w
        exact w.elim (fun w => (pe_revL p).run pins s σ H Q I w) fun w => (pe_revT p).run pins s σ H Q I w
      · cases hk
    · exact se_stop
  · split
    · rename_i hp
      obtain ⟨u, p2, q2⟩ := S i
      refine ⟨_, pe_ix (ix_any (by have := h.un; omega)) p p2 (plain_ok hp), ?_⟩
      rw [h.K]
      exact rd_op fSub1_ok q q2
    · exact se_stop
end
end NL
end
section
set_option Elab.async false
set_option linter.all false
set_option maxRecDepth 100000
set_option maxHeartbeats 4000000
/-! Calls mean what they say. -/
namespace NL
open PySem PySem.Spec PyProof.Rows L2

section
variable {X : Cx} {γ : Gc} {E : XK} {k : Nat} {c : Cfg} {r : Ev} {p pos : Pos}
/-- a built-in function, a built-in type, called -/
theorem se_blt {id : String} {x : Str} {es : List Expr} {g : Store → List AV → Option AV} {rr : List V → Hp → VK → Prop} (h : Hx X γ E k c) (S : ∀ e, SE X γ E e (r.e c e)) (hg : c.gl x = true) (hs : es.any isStar = false) (hne : es.isEmpty = false)
    (hm : bltNames.contains x = true) (hv : bootBuiltins x = some (.builtin id)) (hc : CallR X (.builtin id) rr) (ho : CallOk γ g rr) : SE X γ E (.Call (.Name x p) es [] pos) (eCB g (args r c es)) := by
  cases es with
  | nil => cases hne
  | cons e es =>
    obtain ⟨t, pa, ra⟩ := sa_args S (e :: es) hs
    rw [List.any_cons, Bool.or_eq_false_iff] at hs
    obtain ⟨_, n1, n2⟩ := gl_ok hg
    exact ⟨_, pe_callB hc (h.gl hg) (h.blt hm) hv pa n2 (nbeq n1) (star1 hs.1) (starN hs.2), rd_cb ho ra⟩
theorem se_bltT {T : String} {x : Str} {es : List Expr} {g : Store → List AV → Option AV} {rr : List V → Hp → VK → Prop} (h : Hx X γ E k c) (S : ∀ e, SE X γ E e (r.e c e)) (hg : c.gl x = true) (hs : es.any isStar = false) (hne : es.isEmpty = false)
    (hm : bltNames.contains x = true) (hv : bootBuiltins x = some (.type T)) (hc : CallR X (.type T) rr) (ho : CallOk γ g rr) : SE X γ E (.Call (.Name x p) es [] pos) (eCB g (args r c es)) := by
  cases es with
  | nil => cases hne
  | cons e es =>
    obtain ⟨t, pa, ra⟩ := sa_args S (e :: es) hs
    rw [List.any_cons, Bool.or_eq_false_iff] at hs
    obtain ⟨_, n1, n2⟩ := gl_ok hg
    exact ⟨_, pe_callTy hc (h.gl hg) (h.blt hm) hv pa n2 (nbeq n1) (star1 hs.1) (starN hs.2), rd_cb ho ra⟩
theorem sn_bltT {T : String} {x : Str} {es : List Expr} {g : Store → List AV → Option Cell} {rr : List V → Hp → VK → Prop} (h : Hx X γ E k c) (S : ∀ e, SE X γ E e (r.e c e)) (hg : c.gl x = true) (hs : es.any isStar = false) (hne : es.isEmpty = false)
    (hm : bltNames.contains x = true) (hv : bootBuiltins x = some (.type T)) (hc : CallR X (.type T) rr) (ho : CallNew γ g rr) : SN X γ E (.Call (.Name x p) es [] pos) (nCB g (args r c es)) := by
  cases es with
  | nil => cases hne
  | cons e es =>
    obtain ⟨t, pa, ra⟩ := sa_args S (e :: es) hs
    rw [List.any_cons, Bool.or_eq_false_iff] at hs
    obtain ⟨_, n1, n2⟩ := gl_ok hg
    exact ⟨_, pe_callTy hc (h.gl hg) (h.blt hm) hv pa n2 (nbeq n1) (star1 hs.1) (starN hs.2), rn_cb ho ra, stored_no rfl⟩
/-- range(..) as an argument -/
def SR (X : Cx) (γ : Gc) (E : XK) (e : Expr) (f : Env → Store → Out (Int × Int)) : Prop := ∃ t, PRg X e t ∧ RdR γ E f t
theorem sr_of {e : Expr} {f : Env → Store → Out (Int × Int)} (h : Hx X γ E k c) (S : ∀ e, SE X γ E e (r.e c e)) (e0 : rgOf r c e = some f) : SR X γ E e f := by
  unfold rgOf at e0
  split at e0
  · rename_i x q es q2
    split at e0
    · rename_i hc
      obtain ⟨rfl, hg, hs⟩ := hc
      split at e0
      · rename_i a
        cases e0
        obtain ⟨t, p1, r1⟩ := S a
        rw [List.any_cons, Bool.or_eq_false_iff] at hs
        exact ⟨_, prg_1 (h.gl hg) (h.blt (by decide)) p1 (star1 hs.1), rr_1 r1⟩
      · rename_i a b
        cases e0
        obtain ⟨t, p1, r1⟩ := S a
        obtain ⟨u, p2, r2⟩ := S b
        have hs0 := hs
        rw [List.any_cons, List.any_cons, Bool.or_eq_false_iff, Bool.or_eq_false_iff] at hs
        exact ⟨_, prg_2 (h.gl hg) (h.blt (by decide)) p1 p2 (star1 hs.1) (star1 hs.2.1) (starN (by rw [List.any_cons, hs.2.1]; rfl)), rr_2 r1 r2⟩
      · cases e0
    · cases e0
  · cases e0
theorem tyOf_ok {T : Str} {t : String} (h : tyOfN T = some t) : t ∈ ["bool", "int", "str", "list", "tuple", "dict"] ∧ bltNames.contains T = true ∧ bootBuiltins T = some (.type t) := by
  unfold tyOfN at h
  split at h
  · rename_i e; subst e; cases h; exact ⟨by simp, by decide, Boot.«bool»⟩
  split at h
  · rename_i e; subst e; cases h; exact ⟨by simp, by decide, Boot.«int»⟩
  split at h
  · rename_i e; subst e; cases h; exact ⟨by simp, by decide, Boot.«str»⟩
  split at h
  · rename_i e; subst e; cases h; exact ⟨by simp, by decide, Boot.«list»⟩
  split at h
  · rename_i e; subst e; cases h; exact ⟨by simp, by decide, Boot.«tuple»⟩
  split at h
  · rename_i e; subst e; cases h; exact ⟨by simp, by decide, Boot.«dict»⟩
  · cases h
theorem se_isi {a : Expr} {T : Str} {q : Pos} (h : Hx X γ E k c) (H : Held X γ E c) (S : ∀ e, SE X γ E e (r.e c e)) (hg : c.gl "isinstance" = true) (hT : c.gl T = true) (hs : isStar a = false) : SE X γ E (.Call (.Name "isinstance" p) [a, .Name T q] [] pos) (isiE r c a T) := by
  unfold isiE
  split
  · rename_i t et
    obtain ⟨h1, h2, h3⟩ := tyOf_ok et
    obtain ⟨u, p1, r1⟩ := S a
    obtain ⟨_, n1, n2⟩ := gl_ok hT
    refine ⟨_, pe_callB call_isi (h.gl hg) (h.blt (by decide)) Boot.«isinstance» (pa_cons p1 (pa_cons (pe_bltn (v := .ty t) (h.gl hT) (h.blt h2) h3 rfl n2 (nbeq n1)) pa_nil) (star1 hs)) (by decide) (by decide) (star1 hs), ?_⟩
    rw [h.K]
    exact rd_isi h1 r1
  · split
    · rename_i v n d y q' ev
      split
      · rename_i hc
        obtain ⟨rfl, hx⟩ := hc
        exact H.is_ _ _ _ ev _ hx hT hg _ _ _ _
      · exact se_stop
    · exact se_stop
theorem se_bltE {x : Str} {es : List Expr} (h : Hx X γ E k c) (H : Held X γ E c) (S : ∀ e, SE X γ E e (r.e c e)) (hg : c.gl x = true) (hs : es.any isStar = false) : SE X γ E (.Call (.Name x p) es [] pos) (bltE r c x es) := by
  unfold bltE
  split
  · exact se_stop
  rename_i hne
  have hne : es.isEmpty = false := by simpa using hne
  split
  · rename_i e; subst e
    exact se_blt h S hg hs hne (by decide) Boot.«len» call_lenA (by rw [h.K]; exact gLen_ok)
  split
  · rename_i e; subst e
    exact se_bltT h S hg hs hne (by decide) Boot.«int» call_int1 gInt_ok
  split
  · rename_i e; subst e
    exact se_blt h S hg hs hne (by decide) Boot.«abs» call_abs gAbs_ok
  split
  · rename_i e; subst e
    split
    · exact se_stop
    · rename_i hh
      exact se_blt h S hg hs hne (by decide) Boot.«max» (call_max2 (h.calm (by simpa using hh))) gTwo_ok
  split
  · rename_i e; subst e
    split
    · exact se_stop
    · rename_i hh
      exact se_blt h S hg hs hne (by decide) Boot.«min» (call_min2 (h.calm (by simpa using hh))) gTwo_ok
  split
  · rename_i e; subst e
    split
    · exact se_stop
    · rename_i hh
      exact se_blt h S hg hs hne (by decide) Boot.«sorted» (call_sortA (h.calm (by simpa using hh)) h.un) (by rw [h.K]; exact gSort_ok h.g)
  split
  · rename_i e; subst e
    split
    · rename_i hh
      exact se_blt h S hg hs hne (by decide) Boot.«repr» (cr_repr h.un (h.grd hh)) (by rw [h.K]; exact gRepr_ok)
    · exact se_stop
  split
  · rename_i e; subst e
    split
    · rename_i a
      split
      · rename_i rg er
        split
        · exact se_stop
        · rename_i hh
          obtain ⟨t, p1, r1⟩ := sr_of h S er
          rw [List.any_cons, Bool.or_eq_false_iff] at hs
          exact ⟨_, pe_tupRg (h.calm (by simpa using hh)) (h.gl hg) (h.blt (by decide)) p1 (star1 hs.1), rd_trg h.g r1⟩
      · exact se_bltT h S hg hs hne (by decide) Boot.«tuple» call_tuple_of (by rw [h.K]; exact gTuple_ok h.g)
    · exact se_stop
  split
  · rename_i e; subst e
    split
    · rename_i a T q
      split
      · rename_i hT
        rw [List.any_cons, Bool.or_eq_false_iff] at hs
        exact se_isi h H S hg hT hs.1
      · exact se_stop
    · exact se_stop
  · exact se_stop
end
end NL
end
section
set_option Elab.async false
set_option linter.all false
set_option maxRecDepth 100000
set_option maxHeartbeats 4000000
/-! Blocks of comprehensions; expressions in all. -/
namespace NL
open PySem PySem.Spec PyProof.Rows L2

section
variable {X : Cx} {γ : Gc} {E : XK} {k : Nat} {c : Cfg} {r : Ev} {p pos : Pos} {scope : Scope}
theorem blkB_ok (h : blkB c.N c.sc scope = true) : scope.kind = .function ∧ (∀ y ∈ scope.names, scope.names.lookup y.1 = some y.2) ∧ ∀ y ∈ scope.names, y.2 = .free → c.sc.names.lookup y.1 = some .cell ∨ c.sc.names.lookup y.1 = some .free := by
  unfold blkB at h
  simp only [Bool.and_eq_true, decide_eq_true_eq, List.all_eq_true, Bool.or_eq_true, Bool.not_eq_true', decide_eq_false_iff_not] at h
  exact ⟨h.1.1, h.1.2, fun y hy e => (h.2 y hy).elim (fun z => absurd e z) id⟩
theorem own_mem {N : List Str} {q : Str × Nat} (h : q ∈ ownOf N scope) : N[q.2]? = some q.1 ∧ ((q.1, NameKind.local) ∈ scope.names ∨ (q.1, NameKind.cell) ∈ scope.names) := by
  unfold ownOf at h
  obtain ⟨y, hy, e⟩ := List.mem_filterMap.mp h
  obtain ⟨n, kd⟩ := y
  simp only at e
  split at e
  · rename_i hk
    obtain ⟨i, hi, rfl⟩ := Option.map_eq_some_iff.mp e
    refine ⟨find_ix hi, ?_⟩
    rcases hk with rfl | rfl
    · exact .inl hy
    · exact .inr hy
  · cases e
theorem blk_ok (h : Hx X γ E k c) (hb : blkB c.N c.sc scope = true) : BlkOk X.N X.env.scope scope (ownOf c.N scope) := by
  obtain ⟨h1, h2, h3⟩ := blkB_ok hb
  refine ⟨h1, h2, fun q hq => by rw [h.N]; exact (own_mem hq).1, by rw [h.sc]; exact h3, fun y hy e => ?_⟩
  rw [h.N]
  by_cases hn : y.1 ∈ c.N
  · left
    obtain ⟨i, hi⟩ : ∃ i, c.N.findIdx? (fun z => decide (z = y.1)) = some i := by
      cases hf : c.N.findIdx? (fun z => decide (z = y.1)) with
      | some i => exact ⟨i, rfl⟩
      | none =>
        rw [List.findIdx?_eq_none_iff] at hf
        have := hf y.1 hn
        simp at this
    refine List.mem_map.mpr ⟨(y.1, i), ?_, rfl⟩
    unfold ownOf
    refine List.mem_filterMap.mpr ⟨y, hy, ?_⟩
    rw [if_pos e, hi]
    rfl
  · exact .inr hn
theorem pass_e0 (X : Cx) : Passes (L2N.CX X.prog X.w) X E0 := fun _ _ _ _ _ _ _ h => by
  obtain ⟨_, _, _, _, _, _, _, _, _, _, _, _, z⟩ := h
  exact z.elim
theorem Hx.blk (h : Hx X γ E k c) (hb : blkB c.N c.sc scope = true) (s : Shared) (H : Hp) (C : Addr) (cl : List (Str × Addr)) (fp : List Addr) : Hx (X.blk s H scope (compEnvC scope cl C X.env) fp) γ E0 k (c.inn scope) := by
  obtain ⟨b1, b2, b3⟩ := blkB_ok hb
  refine ⟨h.g, h.K, h.N, h.nd, by show relS scope X.env.scope = _; rw [h.sc]; rfl, b1, h.calm, h.un, h.room, h.grd, h.free, fun x i e => ?_, h.fns, h.fnsL, h.cst, pass_e0 _⟩
  obtain ⟨e1, e2, e3⟩ := sx_ok e
  obtain ⟨_, e4, _⟩ := ix_ok e1
  have e4 : c.N[i]? = some x := e4
  have e2 : ((ownOf c.N scope).map (·.2)).contains i = true := e2
  obtain ⟨q, hq, rfl⟩ := List.mem_map.mp (List.contains_iff_mem.mp e2)
  obtain ⟨o1, o2⟩ := own_mem hq
  rw [e4] at o1
  cases o1
  rcases o2 with o2 | o2
  · right
    show (relS scope X.env.scope).names.lookup _ = _
    exact lookup_relS_keep (by decide) (b2 _ o2)
  · left
    show (scope.names.lookup _ == some .cell) = true
    rw [b2 _ o2]
    rfl
theorem Hx.blkt (h : Hx X γ E k c) (hb : blkB c.N c.sc scope = true) (s : Shared) (H : Hp) (C : Addr) (cl : List (Str × Addr)) (fp : List Addr) : Hxt (X.blk s H scope (compEnvC scope cl C X.env) fp) γ E0 k (c.inn scope) :=
  ⟨h.blk hb s H C cl fp, fun x f e => (nomatch (show none = some f from e)), ⟨fun v n d e => (nomatch (show none = some (v, n, d) from e)), fun v n d e => (nomatch (show none = some (v, n, d) from e)), fun e => Bool.noConfusion (show false = true from e)⟩⟩
/-! ### targets -/
theorem sg_name (h : Hx X γ E k c) {x : Str} {i : Nat} (e : c.sx x = some i) : PG X (.Name x p) (gName i) := by
  obtain ⟨e1, _, e3⟩ := sx_ok e
  exact pg_name (by rw [h.N]; exact h.nd) (h.vis e1).1 (by rw [h.sc]; exact e3) (h.sets x i e)
theorem sg_names (h : Hx X γ E k c) : ∀ {es : List Expr} {is : List Nat}, nmsOf c es = some is → PGs X es (gsOf is) ∧ (assignEach es X.env).length = is.length ∧ (assignEach es X.env).findIdx? (·.1) = none
  | [], _, e => by cases e; exact ⟨pgs_nil, rfl, rfl⟩
  | e0 :: es, is, e => by
    unfold nmsOf at e
    split at e
    · rename_i x q
      split at e
      · rename_i i js e1 e2
        cases e
        obtain ⟨p1, l1, f1⟩ := sg_names h e2
        refine ⟨pgs_cons (sg_name h e1) p1, ?_, ?_⟩
        · show (assignEach es X.env).length + 1 = _
          rw [l1]; rfl
        · show List.findIdx? _ ((false, _) :: assignEach es X.env) = none
          rw [List.findIdx?_cons, f1]
          rfl
      · cases e
    · cases e
theorem sg_of (h : Hx X γ E k c) {tg : Expr} {f : FG} {is : List Nat} (e : tgOf c tg = some (f, is)) : SG X γ tg f is := by
  unfold tgOf at e
  split at e
  · rename_i x q
    obtain ⟨i, hi, e2⟩ := Option.map_eq_some_iff.mp e
    cases e2
    exact ⟨_, sg_name h hi, rg_name⟩
  · rename_i es j q
    split at e
    · cases e
    · rename_i hh
      obtain ⟨js, hj, e2⟩ := Option.map_eq_some_iff.mp e
      cases e2
      obtain ⟨p1, l1, f1⟩ := sg_names h hj
      refine ⟨_, pg_tup (h.calm (by simpa using hh)) p1 l1 f1, ?_⟩
      rw [h.K]
      exact rg_un
  · cases e
theorem RdG.more {f : FG} {g : TG} {is js : List Nat} (h : RdG γ f g is) (s : ∀ i ∈ is, i ∈ js) : RdG γ f g js := fun w st a a' σ H x v Q c ce r e q =>
  h w st a a' σ H x v Q c ce r e fun σ' ce' hw => q σ' ce' fun vs hv => hw vs fun i hi => hv i (s i hi)
theorem allIn_ok {xs ys : List Nat} (h : allIn xs ys = true) : ∀ i ∈ xs, i ∈ ys := fun i hi => List.contains_iff_mem.mp (List.all_eq_true.mp h i hi)
theorem set_fold {iter : Expr} (h : isSet iter = false) (env : PySem.Env) : ∀ x, foldedSetIterable iter env x = pure x := by
  cases iter <;> first | (intro x; rfl) | cases h
/-- all the forms -/
structure Snd (r : Ev) : Prop where
  e : ∀ {X : Cx} {γ : Gc} {E : XK} {k : Nat} {c : Cfg}, Hxt X γ E k c → ∀ e, SE X γ E e (r.e c e)
  t : ∀ {X : Cx} {γ : Gc} {E : XK} {k : Nat} {c : Cfg}, Hxt X γ E k c → ∀ e, ST X γ E e (r.t c e)
  n : ∀ {X : Cx} {γ : Gc} {E : XK} {k : Nat} {c : Cfg}, Hxt X γ E k c → ∀ e, SN X γ E e (r.n c e)
  i : ∀ {X : Cx} {γ : Gc} {E : XK} {k : Nat} {c : Cfg}, Hxt X γ E k c → ∀ tg e, SI X γ E tg e (r.i c tg e)
end
end NL
end
section
set_option Elab.async false
set_option linter.all false
set_option maxRecDepth 100000
set_option maxHeartbeats 4000000
/-! Expressions in all mean what they say. -/
namespace NL
open PySem PySem.Spec PyProof.Rows L2

/-! ### the reading that belongs to a meaning -/
def canE (γ : Gc) (E : XK) (f : FE) : TE := fun σ H Q => ∃ w st a, ConS γ w st H ∧ ConE γ.K w H a σ ∧ Good γ w H E (RV γ w) Q (f a st)
def canT (γ : Gc) (E : XK) (f : FT) : TT := fun σ H Q => ∃ w st a, ConS γ w st H ∧ ConE γ.K w H a σ ∧ Good γ w H E RB Q (f a st)
def canG (γ : Gc) (f : FG) (own : List Nat) : TG := fun v σ H Q => ∃ w st a a' x, ConS γ w st H ∧ ConE γ.K w H a σ ∧ ConV γ.K w H x v ∧ f x a = some a' ∧ ∀ σ', ConE γ.K w H a' σ' → (∀ vs, (∀ i ∈ own, i ∈ vs) → wipe σ' vs = wipe σ vs) → Q σ' H
section
variable {X : Cx} {γ : Gc} {E : XK} {k : Nat} {c : Cfg} {r : Ev} {p pos : Pos} {scope : Scope}
theorem SE.can {e : Expr} {f : FE} (h : SE X γ E e f) : PE X e (canE γ E f) := by
  obtain ⟨t, q, s⟩ := h
  exact ⟨fun pins st σ H Q I ⟨w, z, a, c1, c2, c3⟩ => q.run pins st σ H Q I (s w z a σ H Q c1 c2 c3)⟩
theorem rd_can {f : FE} : RdE γ E f (canE γ E f) := fun w st a σ H Q c ce h => ⟨w, st, a, c, ce, h⟩
theorem ST.can {e : Expr} {f : FT} (h : ST X γ E e f) : PT X e (canT γ E f) := by
  obtain ⟨t, q, s⟩ := h
  exact ⟨fun pins st σ H Q I ⟨w, z, a, c1, c2, c3⟩ => q.run pins st σ H Q I (s w z a σ H Q c1 c2 c3)⟩
theorem rt_can {f : FT} : RdT γ E f (canT γ E f) := fun w st a σ H Q c ce h => ⟨w, st, a, c, ce, h⟩
theorem SG.can {e : Expr} {f : FG} {own : List Nat} (h : SG X γ e f own) : PG X e (canG γ f own) := by
  obtain ⟨t, q, s⟩ := h
  exact ⟨fun pins st σ H v u Q I rv ⟨w, z, a, a', x, c1, c2, c3, c4, c5⟩ => q.run pins st σ H v u Q I rv (s w z a a' σ H x v Q c1 c2 c3 c4 c5)⟩
theorem rg_can {f : FG} {own : List Nat} : RdG γ f (canG γ f own) own := fun w st a a' σ H x v Q c ce r e h => ⟨w, st, a, a', x, c, ce, r, e, h⟩
/-! ### comprehensions -/
theorem s_ifs (S : Snd r) {c' : Cfg} {ifs : List Expr} {tt : FT} (e : ifsT r c' ifs = some tt) : ∃ tT, RdT γ E0 tt tT ∧ ∀ {Y : Cx} {k : Nat}, Hxt Y γ E0 k c' → PTs Y ifs tT := by
  unfold ifsT at e
  split at e
  · cases e; exact ⟨_, rt_yes, fun _ => pts_nil⟩
  · rename_i e0
    cases e
    exact ⟨_, rt_can, fun h => pts_one (S.t h e0).can⟩
  · cases e
structure LcOk (X : Cx) (γ : Gc) (c : Cfg) (scope : Scope) (tg iter : Expr) (ifs : List Expr) (g : FG) (tt : FT) (src : FSrc) (E : XK) (wi : TI) (tT : TT) : Prop where
  calm : X.calm = true
  nd : X.N.Nodup
  pi : PI X tg iter wi
  ri : RdI γ E src wi
  ok : BlkOk X.N X.env.scope scope (ownOf c.N scope)
  pg : ∀ (s : Shared) (H : Hp) (C : Addr) (cl : List (Str × Addr)) (fp : List Addr), PG (X.blk s H scope (compEnvC scope cl C X.env) fp) tg (canG γ g ((ownOf c.N scope).map (·.2)))
  pt : ∀ (s : Shared) (H : Hp) (C : Addr) (cl : List (Str × Addr)) (fp : List Addr), PTs (X.blk s H scope (compEnvC scope cl C X.env) fp) ifs tT
  rt : RdT γ E0 tt tT
  fs : ∀ x, foldedSetIterable iter X.env x = pure x
theorem lc_ok (S : Snd r) (h : Hxt X γ E k c) {tg iter : Expr} {ifs : List Expr} {g : FG} {is : List Nat} {tt : FT} (hc : blkB c.N c.sc scope = true ∧ c.hot = false ∧ isSet iter = false) (eg : tgOf (c.inn scope) tg = some (g, is)) (et : ifsT r (c.inn scope) ifs = some tt)
    (ha : allIn is ((ownOf c.N scope).map (·.2)) = true) : ∃ wi tT, LcOk X γ c scope tg iter ifs g tt (r.i c tg iter) E wi tT := by
  obtain ⟨hb, hh, hs⟩ := hc
  obtain ⟨wi, p1, r1⟩ := S.i h tg iter
  obtain ⟨tT, rt, pt⟩ := s_ifs (γ := γ) S et
  refine ⟨wi, tT, h.h.calm hh, by rw [h.h.N]; exact h.h.nd, p1, r1, blk_ok h.h hb, fun s H C cl fp => ?_, fun s H C cl fp => pt (h.h.blkt hb s H C cl fp), rt, set_fold hs _⟩
  obtain ⟨gg, q1, q2⟩ := sg_of (h.h.blk hb s H C cl fp) eg
  exact SG.can ⟨gg, q1, q2.more (allIn_ok ha)⟩
theorem sn_lc (S : Snd r) (h : Hxt X γ E k c) (elt tg iter : Expr) (ifs : List Expr) : SN X γ E (.ListComp elt [⟨tg, iter, ifs, 0⟩] scope pos) (lcN r c elt tg iter ifs scope) := by
  unfold lcN
  split
  · rename_i hc
    split
    · rename_i g is tt eg et
      split
      · rename_i ha
        obtain ⟨wi, tT, L⟩ := lc_ok S h hc eg et ha
        exact ⟨_, pe_lc L.calm L.nd L.pi L.ok L.pg L.pt (fun s H C cl fp => (S.e (h.h.blkt hc.1 s H C cl fp) elt).can) L.fs, rn_lc h.h.g L.ri rg_can L.rt rd_can, fun _ i y py pos hi hl hsw => ps_setLc L.calm L.nd hi hl hsw L.pi L.ok L.pg L.pt (fun s H C cl fp => (S.e (h.h.blkt hc.1 s H C cl fp) elt).can) L.fs⟩
      · exact sn_stop
    · exact sn_stop
  · exact sn_stop
theorem sn_dc (S : Snd r) (h : Hxt X γ E k c) (kx vx tg iter : Expr) (ifs : List Expr) : SN X γ E (.DictComp kx vx [⟨tg, iter, ifs, 0⟩] scope pos) (dcN r c kx vx tg iter ifs scope) := by
  unfold dcN
  split
  · rename_i hc
    split
    · rename_i g is tt eg et
      split
      · rename_i ha
        obtain ⟨wi, tT, L⟩ := lc_ok S h hc eg et ha
        have pk := fun (s : Shared) (H : Hp) (C : Addr) (cl : List (Str × Addr)) (fp : List Addr) => (S.e (h.h.blkt hc.1 s H C cl fp) kx).can
        have pv := fun (s : Shared) (H : Hp) (C : Addr) (cl : List (Str × Addr)) (fp : List Addr) => (S.e (h.h.blkt hc.1 s H C cl fp) vx).can
        split
        · exact ⟨_, pe_dg (o := .dT []) (S := stepT) (fun H hp hb => dt_empty hp hb) (stepT_ok h.h.un) L.calm L.nd L.pi L.ok L.pg L.pt pk pv L.fs, rn_dt h.h.g L.ri rg_can L.rt rd_can rd_can, fun _ i y py pos hi hl hsw => ps_setDg (o := .dT []) (S := stepT) (fun H hp hb => dt_empty hp hb) (stepT_ok h.h.un) L.calm L.nd hi hl hsw L.pi L.ok L.pg L.pt pk pv L.fs⟩
        · exact ⟨_, pe_dg (o := .dK []) (S := stepK) (fun H hp hb => dk_empty hp hb) stepK_ok L.calm L.nd L.pi L.ok L.pg L.pt pk pv L.fs, rn_dc h.h.g L.ri rg_can L.rt rd_can rd_can, fun _ i y py pos hi hl hsw => ps_setDg (o := .dK []) (S := stepK) (fun H hp hb => dk_empty hp hb) stepK_ok L.calm L.nd hi hl hsw L.pi L.ok L.pg L.pt pk pv L.fs⟩
      · exact sn_stop
    · exact sn_stop
  · exact sn_stop
/-! ### calls -/
theorem se_callE (S : Snd r) (h : Hxt X γ E k c) (x : Str) (es : List Expr) : SE X γ E (.Call (.Name x p) es [] pos) (callE r c x es) := by
  unfold callE
  split
  · exact se_stop
  · rename_i hn
    have hg : c.gl x = true := by
      cases e : c.gl x with
      | true => rfl
      | false => exact absurd (.inl e) hn
    have hs : es.any isStar = false := by
      cases e : es.any isStar with
      | false => rfl
      | true => exact absurd (.inr e) hn
    split
    · rename_i f ef
      split
      · rename_i a body sc q
        split
        · rename_i hc
          exact h.told x f ef hc.2.2 hg a body sc q p pos _ hc.1 hc.2.1 fun X' E' k' hx _ => S.e (k := k') ⟨hx, fun x f e => (nomatch (show none = some f from e)), ⟨fun v n d e => (nomatch (show none = some (v, n, d) from e)), fun v n d e => (nomatch (show none = some (v, n, d) from e)), fun e => Bool.noConfusion (show false = true from e)⟩⟩ body
        · exact se_stop
      · exact se_stop
    · split
      · rename_i n F eF
        split
        · exact se_stop
        · rename_i hh
          have hh : c.hot = false := by simpa using hh
          obtain ⟨f, fd, ps, hl, FG, hm, hk, hb⟩ := (h.h.fns hh x _ eF).ex
          have ng := gl_ok hg
          cases es with
          | nil => exact ⟨_, pe_callG0 FG h.h.grd (h.h.room hh) (h.h.gl hg) hm hk hb h.h.pass (nbeq ng.2.1), rd_call ra_nil⟩
          | cons e es =>
            obtain ⟨t, pa, ra⟩ := sa_args (S.e h) (e :: es) hs
            rw [List.any_cons, Bool.or_eq_false_iff] at hs
            exact ⟨_, pe_callG FG h.h.grd (h.h.room hh) (h.h.gl hg) hm hk hb h.h.pass pa (nbeq ng.2.1) (star1 hs.1) (starN hs.2), rd_call ra⟩
      · exact se_stop
      · exact se_bltE h.h h.held (S.e h) hg hs
theorem sn_callN (S : Snd r) (h : Hxt X γ E k c) (x : Str) (es : List Expr) : SN X γ E (.Call (.Name x p) es [] pos) (callN r c x es) := by
  unfold callN
  split
  · exact sn_stop
  · rename_i hn
    have hg : c.gl x = true := by
      cases e : c.gl x with
      | true => rfl
      | false => exact absurd (.inl e) hn
    have hh : c.hot = false := by
      cases e : c.hot with
      | false => rfl
      | true => exact absurd (.inr (.inl e)) hn
    have hs : es.any isStar = false := by
      cases e : es.any isStar with
      | false => rfl
      | true => exact absurd (.inr (.inr e)) hn
    split
    · rename_i n F eF
      obtain ⟨f, fd, ps, hl, FG, hm, hk, hb⟩ := (h.h.fns hh x _ eF).ex
      have ng := gl_ok hg
      cases es with
      | nil => exact ⟨_, pe_callG0 FG h.h.grd (h.h.room hh) (h.h.gl hg) hm hk hb h.h.pass (nbeq ng.2.1), rn_call ra_nil, stored_no rfl⟩
      | cons e es =>
        obtain ⟨t, pa, ra⟩ := sa_args (S.e h) (e :: es) hs
        rw [List.any_cons, Bool.or_eq_false_iff] at hs
        exact ⟨_, pe_callG FG h.h.grd (h.h.room hh) (h.h.gl hg) hm hk hb h.h.pass pa (nbeq ng.2.1) (star1 hs.1) (starN hs.2), rn_call ra, stored_no rfl⟩
    · exact sn_stop
    · split
      · rename_i a
        split
        · rename_i e; subst e
          split
          · rename_i rg er
            obtain ⟨t, p1, r1⟩ := sr_of h.h (S.e h) er
            rw [List.any_cons, Bool.or_eq_false_iff] at hs
            exact ⟨_, pe_listRg (h.h.calm hh) (h.h.gl hg) (h.h.blt (by decide)) p1 (star1 hs.1), rn_lrg h.h.g r1, stored_no rfl⟩
          · exact sn_bltT h.h (S.e h) hg hs rfl (by decide) Boot.«list» call_list_of (by rw [h.h.K]; exact hList_ok h.h.g)
        · split
          · rename_i e; subst e
            split
            · exact sn_bltT h.h (S.e h) hg hs rfl (by decide) Boot.«dict» (call_dictT (h.h.calm hh) h.h.un) (by rw [h.h.K]; exact hDictT_ok h.h.g)
            · exact sn_bltT h.h (S.e h) hg hs rfl (by decide) Boot.«dict» (call_dictP (h.h.calm hh)) (by rw [h.h.K]; exact hDictK_ok h.h.g)
          · exact sn_stop
      · exact sn_stop
/-! ### methods -/
theorem base_ok {o : Expr} (h : recv o = true) (m : Str) (env : PySem.Env) : attributeBase o m env (eval o env) = eval o env := by
  cases o <;> first | (cases h; done) | rfl
theorem few_ok {es : List Expr} {cpos : Pos} {env : PySem.Env} (hs : es.any isStar = false) (hl : es.length ≤ 20) :
    ((backTo cpos (starEach es env)).all (fun x => !x.1) && (backToKw cpos (keywordEach [] env)).all (fun x => x.1.isSome) && decide (es.length + ([] : List Keyword).length + (if ([] : List Keyword).isEmpty then 0 else 1) < 30)) = true := by
  have h1 : (backTo cpos (starEach es env)).all (fun x => !x.1) = true := by
    have := starN (pos := cpos) (env := env) hs
    rw [List.any_eq_false] at this
    rw [List.all_eq_true]
    intro x hx
    have := this x hx
    simpa using this
  rw [h1]
  simp [keywordEach, backToKw]
  omega
theorem se_meth {T id : String} {m : Str} {o e : Expr} {es : List Expr} {apos : Pos} {f : Store → AV → List AV → Option (AV × Store)} {rr : V → List V → Hp → VK → Prop} (S : ∀ e, SE X γ E e (r.e c e)) (hK : X.K = γ.K) (hT : T = "list" ∨ T = "dict") (pa : PlainAttrs T) (slot : Slot T m id) (hty : typeOf (.builtin id) = pure (.type "method_descriptor"))
    (hm : MtR X id rr) (hf : MetOk γ f rr) (hr : recv o = true) (hs : (e :: es).any isStar = false) (hl : (e :: es).length ≤ 20) (hline : (apos.endLine == pos.line) = true) : SE X γ E (.Call (.Attribute o m apos) (e :: es) [] pos) (eM T f (r.e c o) (args r c (e :: es))) := by
  obtain ⟨t, p1, r1⟩ := S o
  obtain ⟨u, p2, r2⟩ := sa_args S (e :: es) hs
  have hs' := hs
  rw [List.any_cons, Bool.or_eq_false_iff] at hs'
  refine ⟨_, pe_bm pa slot hty hm p1 p2 (base_ok hr _ _) (few_ok hs hl) hline (star1 hs'.1) (starN hs'.2), ?_⟩
  rw [hK]
  exact rd_m hT hf r1 r2
theorem se_methO (h : Hx X γ E k c) (S : ∀ e, SE X γ E e (r.e c e)) (o : Expr) (m : Str) (es : List Expr) (apos : Pos) : SE X γ E (.Call (.Attribute o m apos) es [] pos) (methO r c o m es apos pos) := by
  unfold methO
  split
  · exact se_stop
  · rename_i hn
    have hs : es.any isStar = false := by
      cases e : es.any isStar with
      | false => rfl
      | true => exact absurd (.inl e) hn
    have hr : recv o = true := by
      cases e : recv o with
      | true => rfl
      | false => exact absurd (.inr (.inr (.inl e))) hn
    have hline : (apos.endLine == pos.line) = true := by
      cases e : (apos.endLine == pos.line) with
      | true => rfl
      | false => exact absurd (.inr (.inr (.inr (.inl e)))) hn
    have hl : es.length ≤ 20 := Nat.le_of_not_lt fun z => hn (.inr (.inr (.inr (.inr z))))
    cases es with
    | nil => exact absurd (.inr (.inl rfl)) hn
    | cons e es =>
      split
      · rename_i e0; subst e0
        exact se_meth S h.K (.inl rfl) F.plainAttrs_list F.slot_list_append F.type_list_append mt_append (mAppend_ok h.g) hr hs hl hline
      split
      · rename_i e0; subst e0
        exact se_meth S h.K (.inl rfl) F.plainAttrs_list F.slot_list_extend F.type_list_extend mt_extend (mExtend_ok h.g) hr hs hl hline
      split
      · rename_i e0; subst e0
        exact se_meth S h.K (.inl rfl) F.plainAttrs_list F.slot_list_pop F.type_list_pop mt_popAt (mPopAt_ok h.g) hr hs hl hline
      split
      · rename_i e0; subst e0
        exact se_meth S h.K (.inr rfl) F.plainAttrs_dict F.slot_dict_update F.type_dict_update (mt_updA h.un) (mUpdate_ok h.g) hr hs hl hline
      · exact se_stop
/-! ### text.join(..) -/
theorem sg_ofH (h : Hx X γ E k c) {x1 : Addr} (hot : HotS X x1) {tg : Expr} {f : FG} {is : List Nat} (e : tgOfH c tg = some (f, is)) : SG X γ tg f is := by
  unfold tgOfH at e
  split at e
  · rename_i x q
    obtain ⟨i, hi, e2⟩ := Option.map_eq_some_iff.mp e
    cases e2
    exact ⟨_, sg_name h hi, rg_name⟩
  · rename_i es j q
    obtain ⟨js, hj, e2⟩ := Option.map_eq_some_iff.mp e
    cases e2
    obtain ⟨p1, l1, f1⟩ := sg_names h hj
    refine ⟨_, pg_tupH hot p1 l1 f1, ?_⟩
    rw [h.K]
    exact rg_un
  · cases e
theorem se_lcH (S : Snd r) (h : Hxt X γ E k c) (elt tg iter : Expr) (ifs : List Expr) : SE X γ E (.ListComp elt [⟨tg, iter, ifs, 0⟩] scope pos) (lcH r c elt tg iter ifs scope) := by
  unfold lcH
  split
  · rename_i hc
    obtain ⟨hb, hx, hs⟩ := hc
    obtain ⟨x1, hot⟩ := h.held.hotx hx
    split
    · rename_i g is tt eg et
      split
      · rename_i ha
        obtain ⟨tT, rt, pt⟩ := s_ifs (γ := γ) S et
        have p := pe_lcH (pos := pos) (elt := elt) hot (by rw [h.h.N]; exact h.h.nd) (S.e h iter).can (blk_ok h.h hb) (fun s H C cl fp hot2 => (let ⟨gg, q1, q2⟩ := sg_ofH (h.h.blk hb s H C cl fp) hot2 eg; SG.can ⟨gg, q1, q2.more (allIn_ok ha)⟩)) (fun s H C cl fp => pt (h.h.blkt hb s H C cl fp))
          (fun s H C cl fp => (S.e (h.h.blkt hb s H C cl fp) elt).can) (set_fold hs _)
        refine ⟨_, p, ?_⟩
        rw [h.h.K]
        exact (rn_lc h.h.g (ri_ls rd_can) rg_can rt rd_can).frz
      · exact se_stop
    · exact se_stop
  · exact se_stop
theorem se_methE (T : Snd r) (h : Hxt X γ E k c) (o : Expr) (m : Str) (es : List Expr) (apos : Pos) : SE X γ E (.Call (.Attribute o m apos) es [] pos) (methE r c o m es apos pos) := by
  unfold methE
  split
  · rename_i a e ej
    unfold joinOf at ej
    split at ej
    · rename_i a' j q e'
      split at ej
      · rename_i hc
        obtain ⟨rfl, hs, hl⟩ := hc
        cases ej
        have sj : SE X γ E e (joinA r c e) := by
          unfold joinA
          split
          · split
            · exact se_lcH T h _ _ _ _
            · exact T.e h _
          · exact T.e h _
        obtain ⟨t, p1, r1⟩ := sj
        exact ⟨_, pe_join pe_str p1 (by rw [star1 hs]; rfl) (by rfl) hl, by rw [h.h.K]; exact rd_join r1⟩
      · cases ej
    · cases ej
  · exact se_methO h.h (T.e h) o m es apos
end
end NL
end
section
set_option Elab.async false
set_option linter.all false
set_option maxRecDepth 100000
set_option maxHeartbeats 4000000
/-! Expressions of any depth. -/
namespace NL
open PySem PySem.Spec PyProof.Rows L2

section
variable {X : Cx} {γ : Gc} {E : XK} {k : Nat} {c : Cfg} {r : Ev} {p pos : Pos} {scope : Scope}
theorem SN.frz {e : Expr} {f : FN} (h : SN X γ E e f) : SE X γ E e (frzF f) := let ⟨t, q, s, _⟩ := h; ⟨t, q, s.frz⟩
theorem se_body (S : Snd r) (h : Hxt X γ E k c) (e : Expr) : SE X γ E e (bodyE r c e) := by
  cases e with
  | Name x q => exact se_name h.h x q
  | Constant kk j q => exact se_const kk j q
  | UnaryOp op a q =>
    obtain ⟨t, p1, r1⟩ := S.e h a
    cases op with
    | USub => exact ⟨_, pe_un un_neg p1, rd_neg r1⟩
    | Not => exact ⟨_, pe_not p1, rd_not r1⟩
    | _ => exact se_stop
  | BinOp a op b q =>
    show SE X γ E _ (match binF op with | some f => eOp f (r.e c a) (r.e c b) | none => stop)
    split
    · rename_i f ef
      obtain ⟨rr, ho, hf⟩ := bin_ok (X := X) h.h.g h.h.K ef
      obtain ⟨t, p1, r1⟩ := S.e h a
      obtain ⟨u, p2, r2⟩ := S.e h b
      exact ⟨_, pe_op ho p1 p2, rd_op hf r1 r2⟩
    · exact se_stop
  | BoolOp op es q =>
    cases op with
    | And => exact se_and (S.e h) es
    | Or => exact se_or (S.e h) es
  | Compare a ops bs q => exact (sc_cmp h.h (S.e h) ops bs).e
  | IfExp t a b q =>
    obtain ⟨u, p0, r0⟩ := S.t h t
    obtain ⟨v, p1, r1⟩ := S.e h a
    obtain ⟨w, p2, r2⟩ := S.e h b
    exact ⟨_, pe_ifExp p0 p1 p2, rd_if r0 r1 r2⟩
  | Tuple es j q =>
    show SE X γ E _ (if es.any isStar = true then stop else eTup (args r c es))
    split
    · exact se_stop
    · rename_i hs
      obtain ⟨t, p1, r1⟩ := sa_args (S.e h) es (by simpa using hs)
      exact ⟨_, pe_tup p1, rd_tup h.h.g r1⟩
  | Subscript a i q => exact se_sub h.h (S.e h) i
  | Call f es ks q =>
    cases ks with
    | cons z zs => cases f <;> exact se_stop
    | nil =>
      cases f with
      | Name x q2 =>
        show SE X γ E _ (if isNew (.Call (.Name x q2) es [] q) = true then frzF (r.n c (.Call (.Name x q2) es [] q)) else callE r c x es)
        split
        · exact (S.n h _).frz
        · exact se_callE S h x es
      | Attribute o m q2 => exact se_methE S h o m es q2
      | _ => exact se_stop
  | Attribute o f q =>
    cases o with
    | Name y q2 =>
      show SE X γ E _ (match c.exv with | some (v, _, d) => if y = v ∧ f = "what" then excGet c d y else stop | none => stop)
      split
      · rename_i v n d ev
        split
        · rename_i hc
          obtain ⟨rfl, rfl⟩ := hc
          exact h.held.get _ _ _ ev q2 q
        · exact se_stop
      · exact se_stop
    | _ => exact se_stop
  | List es q => exact (S.n h _).frz
  | ListComp a b d q => exact (S.n h _).frz
  | DictComp a b d s q => exact (S.n h _).frz
  | Dict a b q => exact (S.n h _).frz
  | _ => exact se_stop
theorem st_val {e : Expr} {f : FE} (h : SE X γ E e f) (he : ∀ whole, isTrue e X.env whole = (do let v ← whole; standAt e.pos; holding [v] (truthy v))) : ST X γ E e (tOf f) := let ⟨t, q, s⟩ := h; ⟨_, pt_val q he, rd_test s⟩
theorem st_body (S : Snd r) (h : Hxt X γ E k c) (e : Expr) : ST X γ E e (bodyT r c e) := by
  cases e with
  | BoolOp op es q =>
    cases op with
    | And => exact (sw_and (S.t h) es).t
    | Or => exact (sw_or (S.t h) es).t
  | UnaryOp op a q =>
    cases op with
    | Not =>
      obtain ⟨t, p1, r1⟩ := S.t h a
      exact ⟨_, pt_not p1, rd_tNot r1⟩
    | _ => exact st_stop
  | Compare a ops bs q => exact (sc_cmp h.h (S.e h) ops bs).t
  | Name x q => exact st_val (S.e h _) fun _ => rfl
  | Call f es ks q => exact st_val (S.e h _) fun _ => rfl
  | Constant kk j q => exact st_val (S.e h _) fun _ => rfl
  | Subscript a i q => exact st_val (S.e h _) fun _ => rfl
  | _ => exact st_stop
theorem sn_body (S : Snd r) (h : Hxt X γ E k c) (e : Expr) : SN X γ E e (bodyN r c e) := by
  cases e with
  | List es q =>
    obtain ⟨t, p1, r1⟩ := sa_argsS (S.e h) h.h.K es
    exact ⟨_, pe_lst p1, rn_lst h.h.g r1, stored_no rfl⟩
  | ListComp elt gs sc q =>
    show SN X γ E _ (match gs with | [⟨tg, iter, ifs, 0⟩] => lcN r c elt tg iter ifs sc | _ => stop)
    split
    · exact sn_lc S h elt _ _ _
    · exact sn_stop
  | DictComp kx vx gs sc q =>
    show SN X γ E _ (match gs with | [⟨tg, iter, ifs, 0⟩] => dcN r c kx vx tg iter ifs sc | _ => stop)
    split
    · exact sn_dc S h kx vx _ _ _
    · exact sn_stop
  | Dict ks vs q =>
    show SN X γ E _ (match ks, vs with | [], [] => nNew (.d (.t [])) | _, _ => stop)
    split
    · exact ⟨_, pe_dnewT, rn_emptyT h.h.g, stored_no rfl⟩
    · exact sn_stop
  | Call f es ks q =>
    cases ks with
    | cons z zs => cases f <;> exact sn_stop
    | nil =>
      cases f with
      | Name x q2 => exact sn_callN S h x es
      | _ => exact sn_stop
  | _ => exact sn_stop
theorem si_any (h : Hx X γ E k c) {tg e : Expr} {f : FE} (s : SE X γ E e f) : SI X γ E tg e (sAny f) := by
  obtain ⟨t, p1, r1⟩ := s
  refine ⟨iAny γ.K t, ⟨fun pins s σ H R I w => ?_⟩, ri_any r1⟩
  rw [← h.K] at w
  exact w.elim (fun w => (pi_list p1).run pins s σ H R I w) fun w => (pi_tup p1).run pins s σ H R I w
theorem si_callI (S : Snd r) (h : Hxt X γ E k c) (tg : Expr) (x : Str) (es : List Expr) : SI X γ E tg (.Call (.Name x p) es [] pos) (callI r c tg x es (.Call (.Name x p) es [] pos)) := by
  unfold callI
  split
  · rename_i e; subst e
    split
    · rename_i hc
      obtain ⟨hg, hs⟩ := hc
      have hG := h.h.gl hg
      have hM := h.h.blt (x := "range") (by decide)
      split
      · rename_i a
        obtain ⟨t, p1, r1⟩ := sa_args (S.e h) [a] hs
        rw [List.any_cons, Bool.or_eq_false_iff] at hs
        exact ⟨_, pi_range1 hG hM p1 (star1 hs.1), ri_rg1 r1⟩
      · rename_i a b
        obtain ⟨t, p1, r1⟩ := sa_args (S.e h) [a, b] hs
        rw [List.any_cons, List.any_cons, Bool.or_eq_false_iff, Bool.or_eq_false_iff] at hs
        exact ⟨_, pi_range2 hG hM p1 (by rw [star1 hs.1, star1 hs.2.1]; rfl) (by rw [star1 hs.2.1]; rfl), ri_rg2 r1⟩
      · rename_i a b d
        obtain ⟨t, p1, r1⟩ := sa_args (S.e h) [a, b, d] hs
        have hs' := hs
        rw [List.any_cons, Bool.or_eq_false_iff] at hs
        exact ⟨_, pi_range3 hG hM p1 (star1 hs.1) (starN hs.2), ri_rg3 r1⟩
      · exact si_stop
    · exact si_stop
  · split
    · rename_i e; subst e
      split
      · rename_i hc
        obtain ⟨hg, hs⟩ := hc
        split
        · rename_i elts kk q a
          obtain ⟨t, p1, r1⟩ := S.e h a
          rw [List.any_cons, Bool.or_eq_false_iff] at hs
          have hst : starEach [a] X.env = [(false, eval a X.env)] := by rw [star1 hs.1]; rfl
          have pa : PA X [a] (tCons t tNil) := pa_cons p1 pa_nil (star1 hs.1)
          have hG := h.h.gl hg
          have hM := h.h.blt (x := "enumerate") (by decide)
          refine ⟨fun σ H R => iEnum γ.K (tCons t tNil) σ H R ∨ iEnumT γ.K (tCons t tNil) σ H R, ⟨fun pins s σ H R I w => ?_⟩, ri_enum h.h.g r1⟩
          rw [← h.h.K] at w
          exact w.elim (fun w => (pi_enum hG hM pa hst).run pins s σ H R I w) fun w => (pi_enumT hG hM pa hst).run pins s σ H R I w
        · exact si_stop
      · exact si_stop
    · exact si_any h.h (S.e h _)
theorem si_body (S : Snd r) (h : Hxt X γ E k c) (tg e : Expr) : SI X γ E tg e (bodyI r c tg e) := by
  cases e with
  | Call f es ks q =>
    cases ks with
    | cons z zs => cases f <;> exact si_any h.h (S.e h _)
    | nil =>
      cases f with
      | Name x q2 => exact si_callI S h tg x es
      | _ => exact si_any h.h (S.e h _)
  | _ => exact si_any h.h (S.e h _)
end
theorem snd_ev : ∀ n, Snd (ev n)
  | 0 => ⟨fun _ _ => se_stop, fun _ _ => st_stop, fun _ _ => sn_stop, fun _ _ _ => si_stop⟩
  | n + 1 => ⟨fun h e => se_body (snd_ev n) h e, fun h e => st_body (snd_ev n) h e, fun h e => sn_body (snd_ev n) h e, fun h tg e => si_body (snd_ev n) h tg e⟩
end NL
end
section
set_option Elab.async false
set_option linter.all false
set_option maxRecDepth 100000
set_option maxHeartbeats 4000000
/-! Statements mean what they say. -/
namespace NL
open PySem PySem.Spec PyProof.Rows L2

def SW (X : Cx) (γ : Gc) (E : XK) (e : Expr) (f : FE) : Prop := ∃ t, PE X e t ∧ RdW γ E f t ∧ Stored X e t
def SAW (X : Cx) (γ : Gc) (E : XK) (es : List Expr) (f : FA) : Prop := ∃ t, PA X es t ∧ RdWs γ E f t
def SS (X : Cx) (γ : Gc) (E : XK) (s : Stmt) (f : FS) : Prop := ∃ t, PS X s t ∧ RdS γ E f t
def SSs (X : Cx) (γ : Gc) (E : XK) (s : List Stmt) (f : FS) : Prop := ∃ t, PSs X s t ∧ RdS γ E f t
structure HxS (X : Cx) (γ : Gc) (E : XK) (k : Nat) (c : Cfg) : Prop where
  t : Hxt X γ E k c
  po : PassesOwn (model X.prog X.w) X.A X.env X.xe
  rai : ∀ x, x ∈ c.exs → c.gl x = true → c.hot = false → ∀ (a : Expr) (f : FE) (p q pos : Pos), isStar a = false → SE X γ E a f → SS X γ E (.Raise (some (.Call (.Name x p) [a] [] q)) none pos) (sRaise x f)
section
variable {X : Cx} {γ : Gc} {E : XK} {k : Nat} {c : Cfg} {r : Ev} {p pos : Pos} {scope : Scope}
theorem rs_stop {t : TS} : RdS γ E stop t := fun _ _ _ _ _ _ _ _ h => h.elim
theorem ss_stop {s : Stmt} : SS X γ E s stop := ⟨tNever, ps_never, rs_stop⟩
theorem SE.w {e : Expr} {f : FE} (h : SE X γ E e f) (n : isComp e = false) : SW X γ E e f := let ⟨t, q, s⟩ := h; ⟨t, q, s.toW, stored_no n⟩
theorem sw_new (S : Snd r) (h : Hxt X γ E k c) (m : Bool) (e : Expr) : SW X γ E e (newOr r c m e) := by
  unfold newOr
  split
  · obtain ⟨t, q, s, st⟩ := S.n h e
    exact ⟨t, q, s.toW, st⟩
  · split
    · obtain ⟨t, q, s, st⟩ := S.n h e
      exact ⟨t, q, s.frz.toW, st⟩
    · rename_i hn
      exact (S.e h e).w (by simpa using hn)
theorem saw_args (S : Snd r) (h : Hxt X γ E k c) : ∀ (ms : List Bool) (es : List Expr), es.length ≤ ms.length → es.any isStar = false → SAW X γ E es (argsW r c (ms.zip es))
  | _, [], _, _ => by rw [List.zip_nil_right]; exact ⟨_, pa_nil, rw_nil⟩
  | [], _ :: _, hl, _ => by simp at hl
  | m :: ms, e :: es, hl, hs => by
    rw [List.any_cons, Bool.or_eq_false_iff] at hs
    obtain ⟨t, p1, r1⟩ := saw_args S h ms es (by simpa using hl) hs.2
    obtain ⟨u, p2, r2, _⟩ := sw_new S h m e
    exact ⟨_, pa_cons p2 p1 (star1 hs.1), rw_cons r2 r1⟩
theorem muts_len : ∀ es : List Expr, (muts c es).length = es.length
  | [] => rfl
  | e :: es => by
    have ih := muts_len es
    unfold muts
    split <;> simp [ih]
/-! ### a name stored -/
theorem sw_lc {elt : Expr} {gs : List Comprehension} {sc : Scope} {q py : Pos} {y : Str} {l : Nat} {env : PySem.Env} : ∃ b : Bool, swapsWith (.ListComp elt gs sc q) (some (.Name y py)) l env = pure b ∧ (b = true → env.scope.names.lookup y = some .local) := by
  refine ⟨(env.blockKind == .function && env.kindOf y == some .local && py.line == q.line && !(sc.names.any fun (n, k) => n == y && (k == .local || k == .cell))), rfl, fun hb => ?_⟩
  simp only [Bool.and_eq_true] at hb
  exact eq_of_beq hb.1.1.2
theorem sw_dc {kx vx : Expr} {gs : List Comprehension} {sc : Scope} {q py : Pos} {y : Str} {l : Nat} {env : PySem.Env} : ∃ b : Bool, swapsWith (.DictComp kx vx gs sc q) (some (.Name y py)) l env = pure b ∧ (b = true → env.scope.names.lookup y = some .local) := by
  refine ⟨(env.blockKind == .function && env.kindOf y == some .local && py.line == q.line && !(sc.names.any fun (n, k) => n == y && (k == .local || k == .cell))), rfl, fun hb => ?_⟩
  simp only [Bool.and_eq_true] at hb
  exact eq_of_beq hb.1.1.2
theorem ss_name (h : Hx X γ E k c) {x : Str} {i : Nat} {e : Expr} {f : FE} (ex : c.sx x = some i) (s : SW X γ E e f) (nset : ∀ a b d g, e ≠ .SetComp a b d g) : SS X γ E (.Assign [.Name x p] e pos) (sAsg (gNm i) f) := by
  obtain ⟨t, p1, r1, st⟩ := s
  obtain ⟨e1, _, e3⟩ := sx_ok ex
  have hN : X.N.Nodup := by rw [h.N]; exact h.nd
  have hi := (h.vis e1).1
  have hl : Loc X.env.scope x := by rw [h.sc]; exact e3
  refine ⟨tAsg t (gName i), ?_, rs_asg r1 rg_name⟩
  have plain : swapsWith e (some (.Name x p)) pos.line X.env = pure false → PS X (.Assign [.Name x p] e pos) (tAsg t (gName i)) := fun z => ps_set hN hi hl p1 z (h.sets x i ex)
  cases e with
  | ListComp a b d g =>
    obtain ⟨z, hz, hy⟩ := sw_lc (elt := a) (gs := b) (sc := d) (q := g) (py := p) (y := x) (l := pos.line) (env := X.env)
    cases z with
    | false => exact plain hz
    | true => exact st rfl i x p pos hi (hy rfl) hz
  | DictComp a b d s g =>
    obtain ⟨z, hz, hy⟩ := sw_dc (kx := a) (vx := b) (gs := d) (sc := s) (q := g) (py := p) (y := x) (l := pos.line) (env := X.env)
    cases z with
    | false => exact plain hz
    | true => exact st rfl i x p pos hi (hy rfl) hz
  | SetComp a b d g => exact absurd rfl (nset _ _ _ _)
  | _ => exact plain rfl
/-! ### names stored together -/
end
theorem swp_ok {ts vs : List Expr} {kt k2 : Nat} {pt pt2 : Pos} {env : PySem.Env} {b : Bool} (hk : env.scope.kind = .function) (hs : vs.any isStar = false) (hl : ts.length = vs.length) (h2 : ts.length = 2 ∨ ts.length = 3) (h : swpB env.scope ts vs = some b) :
    swappedStores [.Tuple ts kt pt] (.Tuple vs k2 pt2) env = pure (if b = true then some (swpNames env.scope ts) else none) ∧ (b = true → (swpNames env.scope ts).length = ts.length ∧ (swpNames env.scope ts).eraseDups.length = (swpNames env.scope ts).length) := by
  have hb : env.blockKind = .function := by unfold Env.blockKind; rw [hk]; rfl
  have g1 : (!(ts.length == 2 || ts.length == 3) || vs.length != ts.length || env.blockKind != .function) = false := by
    rw [hb, ← hl]
    rcases h2 with e | e <;> rw [e] <;> rfl
  unfold swpB at h
  unfold swappedStores
  simp only [g1]
  rw [if_neg Bool.false_ne_true]
  split
  · rename_i hc
    obtain ⟨e, he, hst⟩ := List.any_eq_true.mp hc
    have : vs.any isStar = true := List.any_eq_true.mpr ⟨e, he, by cases e <;> first | rfl | cases hst⟩
    rw [hs] at this
    cases this
  · split
    · rename_i hc
      have hc' : ((swpNames env.scope ts).length != ts.length || (swpNames env.scope ts).eraseDups.length != (swpNames env.scope ts).length) = true := hc
      rw [if_pos hc'] at h
      cases h
      exact ⟨rfl, fun z => by cases z⟩
    · rename_i hc
      have hc' : ¬ ((swpNames env.scope ts).length != ts.length || (swpNames env.scope ts).eraseDups.length != (swpNames env.scope ts).length) = true := hc
      rw [if_neg hc'] at h
      split
      · rename_i hf
        rw [if_pos hf] at h
        cases h
        exact ⟨rfl, fun z => by cases z⟩
      · rename_i hf
        rw [if_neg hf] at h
        split
        · rename_i ha
          rw [if_pos ha] at h
          cases h
        · rename_i ha
          rw [if_neg ha] at h
          cases h
          refine ⟨rfl, fun _ => ?_⟩
          simpa using hc'
section
variable {X : Cx} {γ : Gc} {E : XK} {k : Nat} {c : Cfg} {r : Ev} {p pos : Pos} {scope : Scope}
theorem nms_get : ∀ {es : List Expr} {is : List Nat}, nmsOf c es = some is → es.length = is.length ∧ ∀ (j : Nat) (e : Expr) (i : Nat), es[j]? = some e → is[j]? = some i → ∃ x q, e = .Name x q ∧ c.sx x = some i
  | [], is, h => by cases h; exact ⟨rfl, fun j e i h1 _ => by simp at h1⟩
  | e0 :: es, is, h => by
    unfold nmsOf at h
    split at h
    · rename_i x q
      split at h
      · rename_i i js e1 e2
        cases h
        obtain ⟨l1, g1⟩ := nms_get e2
        refine ⟨by simp [l1], fun j e i' h1 h2 => ?_⟩
        cases j with
        | zero =>
          simp at h1 h2
          subst h1 h2
          exact ⟨x, q, rfl, e1⟩
        | succ j => exact g1 j e i' (by simpa using h1) (by simpa using h2)
      · cases h
    · cases h
theorem ss_par (S : Snd r) (h : Hxt X γ E k c) (ts vs : List Expr) (kt k2 : Nat) (pt pt2 : Pos) : SS X γ E (.Assign [.Tuple ts kt pt] (.Tuple vs k2 pt2) pos) (parS r c ts vs) := by
  unfold parS
  split
  · exact ss_stop
  · rename_i hn
    have hh : c.hot = false := by
      cases e : c.hot with
      | false => rfl
      | true => exact absurd (.inl e) hn
    have hs : vs.any isStar = false := by
      cases e : vs.any isStar with
      | false => rfl
      | true => exact absurd (.inr (.inl e)) hn
    have hl : ts.length = vs.length := Classical.not_not.mp fun z => hn (.inr (.inr (.inl z)))
    have h2 : ts.length = 2 ∨ ts.length = 3 := Classical.not_not.mp fun z => hn (.inr (.inr (.inr z)))
    split
    · rename_i is b en eb
      split
      · rename_i nd
        obtain ⟨t, p1, r1⟩ := saw_args S h (muts c ts) vs (by rw [muts_len]; omega) hs
        have hsc := h.h.sc
        obtain ⟨q1, q2⟩ := swp_ok (kt := kt) (k2 := k2) (pt := pt) (pt2 := pt2) (env := X.env) (b := b) (by rw [hsc]; exact h.h.kind) hs hl h2 (by rw [hsc]; exact eb)
        have hcalm := h.h.calm hh
        cases b with
        | false =>
          obtain ⟨g1, l1, f1⟩ := sg_names h.h en
          refine ⟨_, ps_asg (pe_tup p1) (pg_tup hcalm g1 l1 f1) rfl q1 rfl, ?_⟩
          rw [h.h.K]
          refine rs_parT h.h.g ?_ r1
          have := (nms_get en).1
          have : is.length ≤ 3 := by omega
          exact Nat.le_trans this (by decide)
        | true =>
          obtain ⟨n1, n2⟩ := q2 rfl
          obtain ⟨l1, g1⟩ := nms_get en
          have hN : X.N.Nodup := by rw [h.h.N]; exact h.h.nd
          rw [if_pos rfl] at q1
          -- what is stored is a local name
          have loc : ∀ x, x ∈ swpNames X.env.scope ts → X.env.scope.names.lookup x = some .local := fun x hx => by
            unfold swpNames at hx
            obtain ⟨e, he, hx⟩ := List.mem_filterMap.mp hx
            split at hx
            · split at hx
              · rename_i hc
                cases hx
                rw [Bool.and_eq_true] at hc
                exact eq_of_beq hc.1
              · cases hx
            · cases hx
          rcases h2 with h2 | h2
          · match ts, vs, is, h2, hl, l1 with
            | [a1, a2], [b1, b2], [i, j], _, _, _ =>
              obtain ⟨x, px, rfl, ex⟩ := g1 0 _ _ rfl rfl
              obtain ⟨y, py, rfl, ey⟩ := g1 1 _ _ rfl rfl
              have en2 : swpNames X.env.scope [.Name x px, .Name y py] = [x, y] := by
                unfold swpNames at n1 ⊢
                simp only [List.filterMap_cons, List.filterMap_nil] at n1 ⊢
                split at n1 <;> split at n1 <;> simp_all
              rw [en2] at q1 loc
              have hij : i ≠ j := by simpa using nd
              obtain ⟨e1, _, _⟩ := sx_ok ex
              obtain ⟨e2, _, _⟩ := sx_ok ey
              exact ⟨_, ps_par hcalm hN (h.h.vis e1).1 (h.h.vis e2).1 hij (loc x (by simp)) (loc y (by simp)) p1 q1 rfl, rs_par2 r1⟩
          · match ts, vs, is, h2, hl, l1 with
            | [a1, a2, a3], [b1, b2, b3], [i, j, l], _, _, _ =>
              obtain ⟨x, px, rfl, ex⟩ := g1 0 _ _ rfl rfl
              obtain ⟨y, py, rfl, ey⟩ := g1 1 _ _ rfl rfl
              obtain ⟨z, pz, rfl, ez⟩ := g1 2 _ _ rfl rfl
              have en2 : swpNames X.env.scope [.Name x px, .Name y py, .Name z pz] = [x, y, z] := by
                unfold swpNames at n1 ⊢
                simp only [List.filterMap_cons, List.filterMap_nil] at n1 ⊢
                split at n1 <;> split at n1 <;> split at n1 <;> simp_all
              rw [en2] at q1 loc
              have nd' : (i ≠ j ∧ i ≠ l) ∧ j ≠ l := by simpa using nd
              obtain ⟨e1, _, _⟩ := sx_ok ex
              obtain ⟨e2, _, _⟩ := sx_ok ey
              obtain ⟨e3, _, _⟩ := sx_ok ez
              exact ⟨_, ps_par3 hcalm hN (h.h.vis e1).1 (h.h.vis e2).1 (h.h.vis e3).1 nd'.1.1 nd'.1.2 nd'.2 (loc x (by simp)) (loc y (by simp)) (loc z (by simp)) p1 q1 rfl, rs_par3 r1⟩
      · exact ss_stop
    · exact ss_stop
end
end NL
end
section
set_option Elab.async false
set_option linter.all false
set_option maxRecDepth 100000
set_option maxHeartbeats 4000000
/-! Statements of any depth; a def's promise by its text. -/
namespace NL
open PySem PySem.Spec PyProof.Rows L2

structure SndS (r : Ev) : Prop where
  s : ∀ {X : Cx} {γ : Gc} {E : XK} {k : Nat} {c : Cfg}, HxS X γ E k c → ∀ s, SS X γ E s (r.s c s)
section
variable {X : Cx} {γ : Gc} {E : XK} {k : Nat} {c : Cfg} {r : Ev} {p pos : Pos} {scope : Scope}
theorem ss_blk (T : SndS r) (h : HxS X γ E k c) : ∀ ss : List Stmt, SSs X γ E ss (blk r c ss)
  | [] => ⟨_, pss_nil, rs_nil⟩
  | [s] => let ⟨t, q, z⟩ := T.s h s; ⟨t, pss_one q, z⟩
  | s :: s2 :: ss => by
    obtain ⟨t, q, z⟩ := T.s h s
    obtain ⟨u, q2, z2⟩ := ss_blk T h (s2 :: ss)
    exact ⟨_, pss_cons q q2, rs_seq z z2⟩
theorem ss_asg (S : Snd r) (h : Hxt X γ E k c) (t e : Expr) : SS X γ E (.Assign [t] e pos) (asgS r c t e) := by
  cases t with
  | Name x q =>
    show SS X γ E _ (match c.sx x with | some i => if isSetC e = true then stop else sAsg (gNm i) (newOr r c (decide (x ∈ c.mu)) e) | none => stop)
    split
    · rename_i i ex
      split
      · exact ss_stop
      · rename_i ns
        exact ss_name h.h ex (sw_new S h _ e) fun a b d g z => by subst z; exact ns rfl
    · exact ss_stop
  | Tuple ts kt pt =>
    have plain : ∀ e0 : Expr, e0 = e → (∀ vs k2 p2, e0 ≠ .Tuple vs k2 p2) → SS X γ E (.Assign [.Tuple ts kt pt] e0 pos) (match tgOf c (.Tuple ts kt pt) with | some (g, _) => if isComp e0 = true then stop else sAsg g (r.e c e0) | none => stop) := fun e0 _ nt => by
      split
      · rename_i g is eg
        split
        · exact ss_stop
        · rename_i nc
          obtain ⟨u, p1, r1⟩ := S.e h e0
          obtain ⟨gg, q1, q2⟩ := sg_of h.h eg
          refine ⟨_, ps_asg p1 q1 ?_ ?_ rfl, rs_asg r1.toW q2⟩
          · cases e0 <;> first | rfl | exact absurd rfl nc
          · cases e0 <;> first | rfl | exact absurd rfl (nt _ _ _)
      · exact ss_stop
    cases e with
    | Tuple vs k2 p2 => exact ss_par S h ts vs kt k2 pt p2
    | _ => exact plain _ rfl fun _ _ _ z => by cases z
  | Subscript o i q =>
    show SS X γ E _ (if plainIx i = true ∧ isComp e = false then sPutL (r.e c o) (r.e c i) (r.e c e) else stop)
    split
    · rename_i hc
      obtain ⟨h1, h2⟩ := hc
      obtain ⟨t1, p1, r1⟩ := S.e h o
      obtain ⟨t2, p2, r2⟩ := S.e h i
      obtain ⟨t3, p3, r3⟩ := S.e h e
      refine ⟨_, ps_asg p3 (pg_sub p1 p2 set_list ?_) ?_ ?_ rfl, rs_putL h.h.g r1 r2 r3⟩
      · intro v
        cases i <;> first | (cases h1; done) | rfl
      · cases e <;> first | rfl | cases h2
      · cases e <;> first | rfl | cases h2
    · exact ss_stop
  | _ => exact ss_stop
theorem ss_body (S : Snd r) (T : SndS r) (h : HxS X γ E k c) (s : Stmt) : SS X γ E s (bodyS r c s) := by
  cases s with
  | Pass q => exact ⟨_, ps_pass, rs_nil⟩
  | Break q => exact ⟨_, ps_break, rs_bk⟩
  | Continue q => exact ⟨_, ps_continue, rs_ct⟩
  | Expr e q =>
    show SS X γ E _ (if isComp e = true then stop else sDrop (r.e c e))
    split
    · exact ss_stop
    · rename_i nc
      obtain ⟨t, p1, r1⟩ := S.e h.t e
      refine ⟨_, ps_expr p1 ?_, rs_drop r1⟩
      cases e <;> first | rfl | exact absurd rfl nc
  | Return o q =>
    cases o with
    | none => exact ⟨_, ps_retN, rs_retN⟩
    | some e =>
      obtain ⟨t, p1, r1, _⟩ := sw_new S h.t c.retN e
      exact ⟨_, ps_ret p1, rs_ret r1⟩
  | If t a b q =>
    obtain ⟨tt, p0, r0⟩ := S.t h.t t
    obtain ⟨u, p1, r1⟩ := ss_blk T h a
    obtain ⟨v, p2, r2⟩ := ss_blk T h b
    exact ⟨_, ps_if p0 p1 p2, rs_if r0 r1 r2⟩
  | Assign ts e q =>
    match ts with
    | [t] => exact ss_asg S h.t t e
    | [] => exact ss_stop
    | _ :: _ :: _ => exact ss_stop
  | For tg iter body els q =>
    cases els with
    | cons a b => exact ss_stop
    | nil =>
      show SS X γ E _ (match tgOf c tg with | some (g, _) => if c.hot = true ∨ isSet iter = true then stop else sFor (r.i c tg iter) g (blk r c body) | none => stop)
      split
      · rename_i g is eg
        split
        · exact ss_stop
        · rename_i hn
          have hh : c.hot = false := by
            cases e : c.hot with
            | false => rfl
            | true => exact absurd (.inl e) hn
          have hs : isSet iter = false := by
            cases e : isSet iter with
            | false => rfl
            | true => exact absurd (.inr e) hn
          obtain ⟨wi, p1, r1⟩ := S.i h.t tg iter
          obtain ⟨gg, q1, q2⟩ := sg_of h.t.h eg
          obtain ⟨u, p2, r2⟩ := ss_blk T h body
          exact ⟨_, ps_for h.po (h.t.h.calm hh) p1 q1 p2 (set_fold hs _), rs_for r1 q2 r2⟩
      · exact ss_stop
  | While t body els q =>
    cases els with
    | cons a b => exact ss_stop
    | nil =>
      obtain ⟨tt, p0, r0⟩ := S.t h.t t
      obtain ⟨u, p2, r2⟩ := ss_blk T h body
      exact ⟨_, ps_while h.po p0 p2, rs_while r0 r2⟩
  | Raise o kk q =>
    cases o with
    | none => exact ss_stop
    | some e =>
      cases kk with
      | some z => exact ss_stop
      | none =>
        show SS X γ E _ (raiS r c e)
        unfold raiS
        split
        · rename_i x q2 a q3
          split
          · rename_i hc
            obtain ⟨h1, h2, h3, h4⟩ := hc
            exact h.rai x h1 h2 h3 a _ q2 q3 q h4 (S.e h.t a)
          · exact ss_stop
        · exact ss_stop
  | _ => exact ss_stop
end
theorem sndS_ev : ∀ n, SndS (ev n)
  | 0 => ⟨fun _ _ => ss_stop⟩
  | n + 1 => ⟨fun h s => ss_body (snd_ev n) (sndS_ev n) h s⟩
end NL
end
section
set_option Elab.async false
set_option linter.all false
set_option maxRecDepth 100000
set_option maxHeartbeats 4000000
/-! Own exceptions, raised. -/
namespace NL
open PySem PySem.Spec PyProof.Rows L2

/-- what the own __init__ promises: the exception's dict holds what -/
def spInit (K : PySem.W.Frag) : Sp := fun vs H Q _ => ∃ (a C : Addr) (y : V), vs = [.ref a, y] ∧ OexC K C ∧ PySem.W.findIn K (.ref C) "what" = some none ∧ H a = some (exo a C none) ∧
  ∀ dx, H dx = none → dx ≠ a → Q .non (upd (upd H dx (exd dx [(("what" : Str), y)])) a (exo a C (some dx)))
structure ExcF (P : Program) (w : World) (K : PySem.W.Frag) (mg : Str → Option Value) (base : Heap) (x : Str) : Prop where
  ex : ∃ (C fI : Addr) (fd : FuncData) (ps : List Str), mg x = some (.ref C) ∧ OexC K C ∧ PySem.W.findIn K (.ref C) "__init__" = some (some (.ref fI)) ∧ PySem.W.typeIn K (.ref fI) = some (.type "function") ∧ PySem.W.findIn K (.ref C) "what" = some none ∧
    FnOk P w K mg base (L2N.CX P w) 1 fI fd ps (spInit K) ∧ L2.Binds K fd ps []
def initBody (p1 p2 p3 p4 p5 p6 p7 p8 p9 p10 : Pos) : List Stmt :=
  [.Expr (.Call (.Attribute (.Name "ValueError" p1) "__init__" p2) [.Name "self" p3, .Name "what" p4] [] p5) p6, .Assign [.Attribute (.Name "self" p7) "what" p8] (.Name "what" p9) p10]
theorem init_call {p1 p2 p5 : Pos} {es : List Expr} (hl : (p2.endLine == p5.line) = true) (env : PySem.Env) (hn : methodCallForm es.length (backTo p5 (starEach es env)) [] = true := by rfl) : eval (.Call (.Attribute (.Name "ValueError" p1) "__init__" p2) es [] p5) env = (do
    let ov ← eval (.Name "ValueError" p1) env
    standAt p2.atName
    let (f, first) ← holding [ov] (getMethod ov "__init__" (plainOf (.Name "ValueError" p1) env))
    callWith p5 f first (backTo p5 (starEach es env)) (backToKw p5 (keywordEach [] env))) := by
  show (do
    let ov ← eval (.Name "ValueError" p1) env
    standAt p2.atName
    methodCall (.Name "ValueError" p1) "__init__" p2 p5 env ov es.length (backTo p5 (starEach es env)) (backToKw p5 (keywordEach [] env))) = _
  congr 1
  funext ov
  congr 1
  funext _
  exact mcall_line hn hl
theorem init_ok {P : Program} {w : World} {K : PySem.W.Frag} {mg : Str → Option Value} {base : Heap} {x qual : Str} {params : Arguments} {scope : Scope} {f : Addr} {fd : FuncData} {p1 p2 p3 p4 p5 p6 p7 p8 p9 p10 : Pos} (F : FunD K x qual params (initBody p1 p2 p3 p4 p5 p6 p7 p8 p9 p10) scope [] [] f fd)
    (S : FnScope ["self", "what"] ["self", "what"] scope) (l1 : scope.names.lookup ("self" : Str) = some .local) (l2 : scope.names.lookup ("what" : Str) = some .local) (l3 : scope.names.lookup ("ValueError" : Str) = some .globalImplicit) (hm : mg "ValueError" = none)
    (vV : PySem.W.findCls K (.type "ValueError") (.type "type") "__init__" = some (.val (.builtin "ValueError.__init__"))) (hl : (p2.endLine == p5.line) = true) : FnOk P w K mg base (L2N.CX P w) 1 f fd ["self", "what"] (spInit K) := by
  refine F.ok (k := 0) S (fun vs H Q E h => ?_) fun cdv A outer s H vs Q E hr hsp => ?_
  · obtain ⟨a, C, y, rfl, _⟩ := h
    rfl
  · refine ⟨_, pss_cons (ps_expr (pe_veinit (ta := tCons (tVar 0) (tCons (tVar 1) tNil)) l3 hm vV (pa_cons (pe_var (i := 0) rfl (.inl l1)) (pa_cons (pe_var (i := 1) rfl (.inl l2)) pa_nil)) (pl := plainOf (.Name "ValueError" p1) _) (init_call hl _))) (pss_one (ps_ost (pe_var (i := 0) rfl (.inl l1)) (pe_var (i := 1) rfl (.inl l2)))), ?_⟩
    obtain ⟨a, C, y, rfl, T, hn, ha, k⟩ := hsp
    exact ⟨_, rfl, _, rfl, a, C, [y], rfl, by simp, T, ha, _, rfl, _, rfl, a, C, rfl, T, hn, .inl ⟨ha, fun dx n ne => k dx n ne⟩⟩
theorem mk_endN {X : Cx} {pins : List (Addr × Obj)} {σ : L2.St} {H1 H2 : Hp} {Q : XK} {hp hp2 h2 : Heap} {g1 g2 : Array GenState} {d1 d2 : Drawn} {t1 t2 : Nat} {os1 os2 : OsState} {a C d : Addr} {fs : List (Str × V)} (T : Raises X (.ref C)) (I1 : Inv X pins σ H1 ⟨hp, g1, d1, t1, os1⟩)
    (ha : hp.objs.size ≤ a) (k : ∀ b o, hp.get? b = some o → hp2.get? b = some o) (un : Un (frs X.stack) [] (upd H1 a (exo a C none)) H2 hp2 h2) (hok : HOk X.prog X.w H2 h2) (ho : os2 = os1) (hb : AllBare g2)
    (ea : H2 a = some (exo a C (some d))) (ed : H2 d = some (exd d fs)) (hd1 : H1 d = none) (q : Q (.ref C) (some d) (upd (del H2 a) d (.xd fs))) : L2N.MkP X pins σ Q (.ref a) ⟨h2, g2, d2, t2, os2⟩ :=
  match mk_end0 (d2 := d2) (t2 := t2) I1 ha k un hok ho hb ea ed hd1 with
  | ⟨_, G, J, kG, ge, hoe, na⟩ => ⟨a, _, _, ⟨G, g2, d2, t2, os2⟩, _, .ref C, some d, rfl, J, kG, ge, hoe, ⟨rfl, rfl, fun vs e => by cases e; rfl⟩, rfl, rfl, na, rfl, hb, T, q⟩
theorem pmk_oexN {X : Cx} {e : Expr} {es : List Expr} {ta : TA} {p pos : Pos} {CX : CXT} {x : Str} {C fI : Addr} {k : Nat} {fd : FuncData} {ps : List Str} {sp : Sp} {ds : List Value} {dvs : List V} (T : OexC X.K C) (iC : PySem.W.findIn X.K (.ref C) "__init__" = some (some (.ref fI))) (tI : PySem.W.typeIn X.K (.ref fI) = some (.type "function"))
    (F1 : FnOk X.prog X.w X.K X.mg X.base CX k fI fd ps sp) (hr : Room (k + 1) X.A) (hb : Binds X.K fd ps ds) (hd : Vals dvs ds) (hx : Passes CX X (fun _ _ _ => False)) (hg : Gl X x) (hm : X.mg x = some (.ref C)) (ha : PA X (e :: es) ta)
    (hdb : (x == ("__debug__" : Str)) = false) (he : starEach (e :: es) X.env = (false, eval e X.env) :: starEach es X.env) (hpl : (backTo pos (starEach es X.env)).any (·.1) = false := by rfl) :
    L2N.PMk X (.Call (.Name x p) (e :: es) [] pos) (tMkO C sp dvs ta) := by
  intro pins s σ H Q I h
  obtain ⟨nm, q, N, bs, bm, sn, sub, ab, col, dd, k0, k1, k2, k3, k5, hC, hbm⟩ := T.cls
  refine wpAny_Call_Name_kw (ld_glob I hg hm ?_ hdb)
  refine PySem.W.callWith_K (h₀ := X.base) I.ok.mod.kin T.kC (thn (ha.run pos pins s σ H _ I h) fun us s1 ⟨vs, H1, I1, r1, hz, q1⟩ => ⟨I1.kIn, ?_⟩) he hpl
  show wpAny _ _ (call (.ref C) us) _ _ _
  obtain ⟨hp, g, dr, tk, os⟩ := s1
  have hsz : hp.objs.size ≤ hp.objs.size + 1 := Nat.le_succ _
  have hn : H1 (hp.objs.size + 1) = none := I1.hok.fresh hsz
  have hq := q1 (hp.objs.size + 1) hn
  have kk : ∀ b o, hp.get? b = some o → ((hp.push (PySem.W.kdv_tup us)).push (PySem.HandSPX.excO C hp.objs.size)).get? b = some o := fun b o e => Heap.get?_push_of_some _ (Heap.get?_push_of_some _ e)
  have hget : ((hp.push (PySem.W.kdv_tup us)).push (PySem.HandSPX.excO C hp.objs.size)).get? (hp.objs.size + 1) = some (PySem.HandSPX.excO C hp.objs.size) := by heap_get
  have I2 : Inv X pins σ (upd H1 (hp.objs.size + 1) (exo (hp.objs.size + 1) C none)) ⟨(hp.push (PySem.W.kdv_tup us)).push (PySem.HandSPX.excO C hp.objs.size), g, dr, tk, os⟩ :=
    I1.laid (t' := tk) (a := hp.objs.size + 1) (o := exo (hp.objs.size + 1) C none) (h' := (hp.push (PySem.W.kdv_tup us)).push (PySem.HandSPX.excO C hp.objs.size)) kk hsz (exo_ok hget)
  have r2 : Vals (V.ref (hp.objs.size + 1) :: (vs ++ dvs)) (Value.ref (hp.objs.size + 1) :: (us ++ ds)) := .cons rfl (r1.append hd)
  have hl : (Value.ref (hp.objs.size + 1) :: us ++ ds).length = ps.length := by
    have e := r2.length
    rw [F1.len _ _ _ _ hq] at e
    exact e.symm
  have hus : us.length ≤ sizeLine := by
    rw [← Paired.length r1, sizeLine_eq]
    omega
  refine wpAny_call (PySem.HandSPX.call_own F.excBase_ValueError (fun Y => PySem.HandSPX.refsVE_contains Y bm hbm) (I1.kIn _ _ hC) (PySem.W.looks_findIn I1.kIn iC) (fun self => PySem.W.bind_fn I1.kIn self tI) hus
    (codeAny_mono (F1.run _ X.stack _ _ ⟨Value.ref (hp.objs.size + 1) :: us, []⟩ (Value.ref (hp.objs.size + 1) :: (us ++ ds)) _ _ (fun _ _ _ => False) (hr.make C us []) (I2.env0.make C us []) (hb _ (Value.ref (hp.objs.size + 1) :: us) I2.kIn hl) r2 hq) fun r s' hq' => ?_))
  cases r with
  | error er => exact hx pins σ _ _ er s' I2 hq'
  | ok fl =>
    cases fl with
    | ret u =>
      obtain ⟨v, H2, os2, bare2, un2, hok2, rv, ev, d, fs, ea, ed, hd1, q2⟩ := hq'
      subst ev
      obtain ⟨h2, g2, d2, t2, os'⟩ := s'
      exact ⟨rv, mk_endN (raises_own T.exC T.tyC) I1 hsz kk un2 hok2 os2 bare2 ea ed hd1 q2⟩
    | next => exact False.elim hq'
    | brk => exact False.elim hq'
    | cont => exact False.elim hq'
section
variable {X : Cx} {γ : Gc} {E : XK} {k : Nat} {c : Cfg}
theorem rai_of (g : γ.Ok) (hK : X.K = γ.K) (hmg : X.mg = γ.mg) (calm : X.calm = true) (room : Room 2 X.A) (tk : L2N.Takes X fun cls d _ H => E cls d H) {x : Str} (gl : Gl X x) (nx : x ≠ "__debug__") (F : ExcF X.prog X.w X.K X.mg X.base x) {a : Expr} {f : FE} {p q pos : Pos} (hs : isStar a = false) (ha : SE X γ E a f) :
    SS X γ E (.Raise (some (.Call (.Name x p) [a] [] q)) none pos) (sRaise x f) := by
  obtain ⟨C, fI, fd, ps, hm, T, iC, tI, nw, F1, hb⟩ := F.ex
  obtain ⟨t, p1, r1⟩ := ha
  refine ⟨_, L2N.ps_raise calm tk (pmk_oexN T iC tI F1 room hb .nil (pass_e0 X) gl hm (pa_cons p1 pa_nil (star1 hs)) (nbeq nx) (star1 hs)), ?_⟩
  intro w st e σ H D cs ce h
  refine r1 w st e σ H _ cs ce (GoodS.bind cs.sub h fun v s u H1 e1 c1 rv h1 => ?_)
  have nope : (∀ d, v ≠ .d d) → False := fun n => by
    cases v with
    | d d => exact n d rfl
    | _ => exact h1
  cases v with
  | d d =>
    refine ⟨by show [u].length ≤ 1000; simp, fun y hy => ?_⟩
    refine ⟨y, C, u, rfl, T, nw, upd_same, fun dx hdx ne => ⟨rfl, dx, [(("what" : Str), u)], upd_same, ?_, ?_, ?_⟩⟩
    · rw [upd_ne ne, upd_same]
    · rw [upd_ne ne] at hdx
      exact hdx
    · rw [upd_ne ne] at hdx
      have eH : upd (del (upd (upd (upd H1 y (exo y C none)) dx (exd dx [(("what" : Str), u)])) y (exo y C (some dx))) y) dx (.xd [(("what" : Str), u)]) = upd H1 dx (.xd [(("what" : Str), u)]) := by
        funext b
        by_cases hb : b = dx
        · rw [hb, upd_same, upd_same]
        · rw [upd_ne hb, upd_ne hb]
          by_cases hy' : b = y
          · rw [hy', del_same, hy]
          · rw [del_ne hy', upd_ne hy', upd_ne hb, upd_ne hy']
      rw [eH]
      obtain ⟨c2, e2⟩ := c1.laid g (o := .xd [(("what" : Str), u)]) hdx
      exact h1 w (.ref C) (some dx) _ (Grow.refl w H1) e2 c2 ⟨by rw [← hmg]; exact hm, dx, u, rfl, upd_same, FD.ext e2 c1.sub rv⟩
  | r _ => exact (nope fun _ z => by cases z).elim
  | c _ => exact (nope fun _ z => by cases z).elim
  | z _ => exact (nope fun _ z => by cases z).elim
  | e _ => exact (nope fun _ z => by cases z).elim
end
end NL
end
section
set_option Elab.async false
set_option linter.all false
set_option maxRecDepth 100000
set_option maxHeartbeats 4000000
/-! A def that calls the lambda it got. -/
namespace NL
open PySem PySem.Spec PyProof.Rows L2

def lamXe (X : Cx) (A : Around) (outer : List PySem.Env) (s : Shared) (H : Hp) (E : XK) (scope : Scope) (f c' : Addr) (e : Value) (s' : Shared) : Prop :=
  wpAny (model X.prog X.w) (A.deeper (LamX.lamEnv X scope s.heap.objs.size f c')) (leaving (LamX.lamEnv X scope s.heap.objs.size f c') e) (fun _ z => L2N.CX X.prog X.w outer H s E e z) (fun e' z => L2N.CX X.prog X.w outer H s E e' z) s'
def lamN (X : Cx) (A : Around) (outer : List PySem.Env) (s : Shared) (H : Hp) (E : XK) (scope : Scope) (f c' : Addr) : Cx := (LamX.lamCx X A outer s H E scope f c').wish (lamXe X A outer s H E scope f c')
/-- the lambda's object -/
def lamO (X : Cx) (params : Arguments) (body : Expr) (scope : Scope) (pm : Value) (c' : Addr) (ctv : Value) : Obj :=
  PySem.W.kla_obj "<lambda>" (X.env.qual ++ "<lambda>") params body scope (cloFrom X.env.cells scope.names []) pm c' ctv
def noBind (params : Arguments) (body : Expr) (scope : Scope) : Prop := ∀ (q : Str) (cl : List (Str × Addr)) (pm cv ctv : Value), bindArgs (PySem.W.kla_fn "<lambda>" q params body scope cl pm cv ctv) ⟨[], []⟩ = pure []
section
variable {X : Cx} {pins : List (Addr × Obj)} {σ : L2.St} {H : Hp} {s : Shared}
/-- the context of the def that got it -/
abbrev gotX (X : Cx) (Ng : List Str) (x : Str) (sg : Scope) (g : Addr) (cdg : Value) (s : Shared) (H : Hp) : Cx := cxOf C8.CX0 X.prog X.w X.K X.mg X.base Ng x sg g cdg X.A X.stack s H C8.E0
theorem act_N {Ng : List Str} {qg : Str} {sg : Scope} {g f c' : Addr} {cdg pm ctv : Value} {params : Arguments} {body : Expr} {scope : Scope} {k i : Nat} {a : Str} {pn : List (Addr × Obj)} {xe : Value → Shared → Prop} {W : WX} {E : XK} {tb : TE} {p1 p2 : Pos}
    (I : Inv X pins σ H s) (L : LamX.LamS X.env.scope scope) (hf : s.heap.get? f = some (lamO X params body scope pm c' ctv)) (hfn : H f = none) (hfr : f ∉ frs X.stack) (hbind : noBind params body scope)
    (tk : L2N.Takes ((gotX X Ng qg sg g cdg s H).tr pn xe) W) (hW : ∀ cls d τ J, E cls d J → W cls d τ J) (hr : Room (k + 1) (X.A.deeper (envOfC qg sg s.heap.objs.size g cdg)))
    (hbody : ∀ (A : Around) (outer : List PySem.Env) (s : Shared) (H : Hp), Room k (A.deeper (LamX.lamEnv X scope s.heap.objs.size f c')) → PE (lamN X A outer s H E scope f c') body tb)
    (hN : Ng[i]? = some a) (hv : Vis sg a) (hd : a ≠ "__debug__") (hcd : a ≠ "__classdict__") :
    PE ((gotX X Ng qg sg g cdg s H).tr pn xe) (.Call (.Name a p1) [] [] p2) (fun τ J Q => τ[i]? = some (some (.ref f)) ∧ J c' = some (LamX.CodeO c' (X.env.qual ++ "<lambda>")) ∧ tb σ J Q) := by
  constructor
  intro pz sz τ J Q Iz h
  obtain ⟨hs, hc, ht⟩ := h
  have hvar := (pe_var (X := (gotX X Ng qg sg g cdg s H).tr pn xe) (pos := p1) (i := i) hN hv (nbeq hd) (nbeq hcd)).run pz sz τ J (fun v H1 => v = .ref f ∧ H1 = J) Iz ⟨.ref f, hs, rfl, rfl⟩
  apply wpAny_Call_Name_kw
  apply thn hvar
  rintro u s1 ⟨v, H1, I1, r1, rfl, rfl⟩
  obtain rfl : u = Value.ref f := r1
  have of1 : s1.heap.get? f = some (lamO X params body scope pm c' ctv) := I1.base.keep f _ hf hfn hfr (fun z => nomatch (show f ∈ ([] : List Addr) from z))
  apply PySem.W.callWith_F0 ⟨_, _, _, _, of1⟩
  obtain ⟨⟨oc, vs, t, hoc, hdc, hvc⟩, _, _⟩ := I1.hok c' _ hc
  have rc : codeAny (model X.prog X.w) (X.A.deeper (envOfC qg sg s.heap.objs.size g cdg)) (.call (.ref f) ⟨[], []⟩) (CR (L2N.CX X.prog X.w) (envOfC qg sg s.heap.objs.size g cdg :: X.stack) X.prog X.w H1 s1 Q E) s1 := by
    apply PySem.W.kla_callFunE hr.depth of1 rfl L.co L.gen rfl ⟨c', oc, vs, t, rfl, hoc, hdc, hvc⟩
    rw [hbind]
    apply wpAny_pure
    apply wpAny_newFunctionEnv (fun y hy => (L.own y hy).2) (fun y hy => absurd hy (by simp)) _ L.kind
    intro h₁ hns hsb
    refine ⟨I1.nolimit.fresh _ hsb, ?_⟩
    show codeAny _ _ (.expr body (LamX.lamEnv X scope s1.heap.objs.size f c')) _ _
    have I2 := LamX.lam_start2 (A := X.A.deeper (envOfC qg sg s.heap.objs.size g cdg)) (outer := envOfC qg sg s.heap.objs.size g cdg :: X.stack) (E := E) (f := f) (c' := c') (tk := s1.toks + ([] : List (Str × Value)).length) I L I1.env0 hr.hd I1.base hns
      fun b o e => hsb.extBut b o (Nat.ne_of_lt (Heap.lt_size e)) (Heap.get?_push_of_some _ e)
    have I3 := I2.wish (lamXe X (X.A.deeper (envOfC qg sg s.heap.objs.size g cdg)) (envOfC qg sg s.heap.objs.size g cdg :: X.stack) s1 H1 E scope f c')
    refine PySem.W.kla_codeExpr (wpAny_mono ((hbody _ _ s1 H1 (hr.deeper _)).run [] _ _ H1 Q I3 ht) (fun v s' hq => ?_) fun e s' hq => hq)
    obtain ⟨w', H', I4, rv, q⟩ := hq
    exact ⟨w', H', I4.os, I4.bare, I4.base, I4.hok, rv, q⟩
  apply wpAny_call
  apply codeAny_mono rc
  intro r s' hq
  have hx := L2N.passes_call tk hW
  match r, hq with
  | .error e, hq => exact hx pz τ H1 s1 e s' I1 hq
  | .ok (.ret u), hq => exact I1.after hq
  | .ok .next, hq => exact False.elim hq
  | .ok .brk, hq => exact False.elim hq
  | .ok .cont, hq => exact False.elim hq
end
/-- what becomes of the lambda's reading in the def that got it -/
abbrev Got := (XK → Hp → VK → Prop) → Hp → VK → Prop
def GivesN (X : Cx) (Ng : List Str) (x : Str) (sg : Scope) (g : Addr) (cdg : Value) (bg : List Stmt) (a : Str) (q : Str) (TT : Got) : Prop :=
  ∀ (f c' : Addr) (s : Shared) (H : Hp) (Q : VK) (tl : XK → Hp → VK → Prop),
    (∀ (W : WX) (pn : List (Addr × Obj)) (xe : Value → Shared → Prop) (E : XK) (p1 p2 : Pos), L2N.Takes ((gotX X Ng x sg g cdg s H).tr pn xe) W → (∀ cls d τ J, E cls d J → W cls d τ J) →
      PE ((gotX X Ng x sg g cdg s H).tr pn xe) (.Call (.Name a p1) [] [] p2) (fun τ J Q => τ[0]? = some (some (.ref f)) ∧ J c' = some (LamX.CodeO c' q) ∧ tl E J Q)) →
    H c' = some (LamX.CodeO c' q) → TT tl H Q → Room 2 X.A →
    ∃ t, PSs (gotX X Ng x sg g cdg s H).nox bg t ∧ t { nx := fun _ H' => Q .non H', rt := Q } (L2.start Ng [.ref f]) H
def tLamN (T : List (Addr × Str)) (TT : Got) (t : XK → TE) : TE := fun σ H Q => LamX.Tabs T H ∧ ∀ H1, LamX.ExtN H H1 → LamX.Tabs T H1 → TT (fun E H' Q' => t E σ H' Q') H1 Q
/-- x(lambda: body) -/
theorem lamcall_N {X : Cx} {T : List (Addr × Str)} {TT : Got} {x a : Str} {g c P : Addr} {k : Nat} {pg : Arguments} {bg : List Stmt} {sg : Scope} {dV kV doc pm cdv ct oc : Value} {an od : Option Addr} {osl : Array (Option Value)} {Ng : List Str}
    {params : Arguments} {body : Expr} {scope : Scope} {t : XK → TE} {p lpos pos : Pos} (hg : Gl X x) (hm : X.mg x = some (.ref g)) (hk : PySem.W.keepIn X.K (.ref g) = true)
    (lk : X.K.lookup g = some ⟨oc, od, .func (PySem.W.fnOf x x pg bg sg dV kV doc pm an cdv ct), osl⟩) (hcg : PySem.W.codeIn X.K cdv x = true) (hb : L2.Binds X.K (PySem.W.fnOf x x pg bg sg dV kV doc pm an cdv ct) [a] []) (Sg : FnScope Ng [a] sg) (hNg : Ng[0]? = some a) (hva : Vis sg a)
    (hG : GivesN X Ng x sg g cdv bg a (X.env.qual ++ "<lambda>") TT)
    (TB : LamX.TabB X.base X.mg c P) (hcode : X.env.code = .ref c) (hmT : (P, X.env.qual ++ "<lambda>") ∈ T) (hu : ∀ p ∈ T, p.1 = P → p.2 = X.env.qual ++ "<lambda>") (hr : Room (k + 2) X.A) (L : LamX.LamS X.env.scope scope) (hdef : defaultsOf params X.env = ([], []))
    (hbind : noBind params body scope)
    (hbody : ∀ (A : Around) (outer : List PySem.Env) (s : Shared) (H : Hp) (E : XK) (f c' : Addr), Room k (A.deeper (LamX.lamEnv X scope s.heap.objs.size f c')) → PE (lamN X A outer s H E scope f c') body (t E))
    (hdb : x ≠ "__debug__") (hd : a ≠ "__debug__") (hcd : a ≠ "__classdict__") :
    PE X (.Call (.Name x p) [.Lambda params body scope lpos] [] pos) (tLamN T TT t) := by
  constructor
  intro pins s σ H Q I ⟨hT, h⟩
  apply wpAny_Call_Name_kw
  apply ld_glob I hg hm _ (nbeq hdb)
  refine PySem.W.callWith_K (h₀ := X.base) I.ok.mod.kin hk ?_ (by rfl) (by rfl)
  show wpAny _ _ (spliced ((false, eval (.Lambda params body scope lpos) X.env) :: backTo pos (starEach [] X.env))) _ _ s
  apply Calls.spliced_cons
  apply LamX.lam_make2 I TB hcode hmT hu hT hdef (L.has I.ok)
  intro f c' pm' ctv H1 s' I1 eN T1 hf hfn hfr hco
  apply Calls.spliced_nil
  refine ⟨I1.kIn, ?_⟩
  have rc : codeAny (model X.prog X.w) X.A (.call (.ref g) ⟨[.ref f], []⟩) (CR C8.CX0 X.stack X.prog X.w H1 s' Q C8.E0) s' := by
    apply LamX.run_ofS (N := Ng) (ps := [a]) (us := [.ref f]) (vs := [.ref f]) lk hcg Sg hr I1.env0 (hb s' [.ref f] I1.kIn rfl) (.cons rfl .nil) rfl
    intro hr'
    obtain ⟨t', ht', hq'⟩ := hG f c' s' H1 Q (fun E H' Q' => t E σ H' Q') (fun W pn xe E p1 p2 tk hW => act_N (i := 0) I1 L hf hfn hfr hbind tk hW hr' (fun A outer s H hr2 => hbody A outer s H E f c' hr2) hNg hva hd hcd) hco (h H1 eN T1) (hr.mono (Nat.le_add_left 2 k))
    exact ⟨t', ht'.nox, hq'⟩
  apply wpAny_call
  apply codeAny_mono rc
  intro r s2 hq
  match r, hq with
  | .error e, hq => exact (show False from hq).elim
  | .ok (.ret u), hq => exact I1.after hq
  | .ok .next, hq => exact False.elim hq
  | .ok .brk, hq => exact False.elim hq
  | .ok .cont, hq => exact False.elim hq
end NL
end
section
set_option Elab.async false
set_option linter.all false
set_option maxRecDepth 100000
set_option maxHeartbeats 4000000
/-! What is told of a lambda. -/
namespace NL
open PySem PySem.Spec PyProof.Rows L2

section
variable {γ : Gc} {w : Wd} {st : Store} {H H1 : Hp}
theorem ext_nil (e : Ext [] H H1) (al : List Addr) : Ext al H H1 := e.more fun _ z => by cases z
theorem ext_of (e : LamX.ExtN H H1) : Ext [] H H1 := fun a o h _ n => e a o h n
theorem ConS.ext0 (c : ConS γ w st H) (e : Ext [] H H1) (G : γ.G H1) : ConS γ w st H1 :=
  have k : ∀ a, w.rh a → ∀ o, H a = some o → H1 a = some o := fun a ha o ho => by
    obtain ⟨u, hu, wr⟩ := c.trk a ha
    rw [hu] at ho
    cases ho
    exact e a _ hu (by simp) wr.nt
  ⟨c.len, c.nd, c.sub, fun a ha => let ⟨o, h, wr⟩ := c.trk a ha; ⟨o, k a ha o h, wr⟩,
    fun l a cl h1 h2 => CellAt.grow (Grow.refl w H) (ext_nil e _) c.sub (k a (c.sub a (List.mem_of_getElem? h1))) (c.cell l a cl h1 h2), G, c.xa⟩
theorem ConE.ext0 {a : Env} {σ : L2.St} (c : ConS γ w st H) (ce : ConE γ.K w H a σ) (e : Ext [] H H1) : ConE γ.K w H1 a σ := ConE.grow (Grow.refl w H) (ext_nil e _) c.sub ce
end
/-- what becomes of the lambda's outcome -/
def GotF (γ : Gc) (F : Out AV → Out AV) : Got := fun tl H Q => ∃ w st o, ConS γ w st H ∧ (∀ E' Q', Good γ w H E' (RV γ w) Q' o → tl E' H Q') ∧ Good γ w H (fun _ _ _ => False) (RV γ w) Q (F o)
theorem se_told {X : Cx} {γ : Gc} {E : XK} {T : List (Addr × Str)} {e : Expr} {b : FE} {F : Out AV → Out AV} (hG : γ.G = LamX.Tabs T) (hF : ∀ o n x s, F o ≠ .exc n x s) (h : PE X e (tLamN T (GotF γ F) fun E' => canE γ E' b)) : SE X γ E e (fun a st => F (b a st)) := by
  refine ⟨_, h, fun w st a σ H Q c ce g => ⟨by have := c.glob; rw [hG] at this; exact this, fun H1 ex tb => ?_⟩⟩
  have e0 := ext_of ex
  have c1 := c.ext0 e0 (by rw [hG]; exact tb)
  refine ⟨w, st, b a st, c1, fun E' Q' h' => ⟨w, st, a, c1, ConE.ext0 c ce e0, h'⟩, ?_⟩
  have g1 : Good γ w H1 E (RV γ w) Q (F (b a st)) := Good.shift (H1 := H1) g (ext_nil e0 _)
  generalize hz : F (b a st) = z at g1
  cases z with
  | ok v s => exact g1
  | exc n x s => exact (hF _ _ _ _ hz).elim
  | stuck => exact g1

/-! ### data without lists -/
mutual
def noL : PyData → Bool
  | .none => true
  | .bool _ => true
  | .int _ => true
  | .str _ => true
  | .tuple xs => noLs xs
  | _ => false
def noLs : List PyData → Bool
  | [] => true
  | x :: xs => noL x && noLs xs
end
mutual
inductive FT0 (H : Hp) : V → PyData → Prop
  | non : FT0 H .non .none
  | bl (b : Bool) : FT0 H (.bl b) (.bool b)
  | int (i : Int) : FT0 H (.int i) (.int i)
  | str (x : Str) : FT0 H (.str x) (.str x)
  | tup {a : Addr} {xs : List V} {ds : List PyData} : H a = some (.tup xs) → FT0s H xs ds → FT0 H (.ref a) (.tuple ds)
inductive FT0s (H : Hp) : List V → List PyData → Prop
  | nil : FT0s H [] []
  | cons {v : V} {vs : List V} {d : PyData} {ds : List PyData} : FT0 H v d → FT0s H vs ds → FT0s H (v :: vs) (d :: ds)
end
section
variable {K : PySem.W.Frag} {rh : Addr → Prop} {H H' : Hp}
mutual
theorem FD.t0 : ∀ {v : V} {d : PyData}, FD K rh H v d → noL d = true → FT0 H v d
  | _, _, .non, _ => .non
  | _, _, .bl b, _ => .bl b
  | _, _, .int i, _ => .int i
  | _, _, .str x, _ => .str x
  | _, _, .lst h _ a, n => by simp [noL] at n
  | _, _, .tup h _ a, n => .tup h (FDs.t0 a (by simpa [noL] using n))
theorem FDs.t0 : ∀ {vs : List V} {ds : List PyData}, FDs K rh H vs ds → noLs ds = true → FT0s H vs ds
  | _, _, .nil, _ => .nil
  | _, _, .cons a b, n => .cons (FD.t0 a (by simp [noLs] at n; exact n.1)) (FDs.t0 b (by simp [noLs] at n; exact n.2))
end
mutual
theorem FT0.fd (t : ∀ a, rh a → ∃ o, H a = some o ∧ Wr o) : ∀ {v : V} {d : PyData}, FT0 H v d → FD K rh H v d
  | _, _, .non => .non
  | _, _, .bl b => .bl b
  | _, _, .int i => .int i
  | _, _, .str x => .str x
  | _, _, .tup h a => .tup h (fun z => by obtain ⟨o, e, w⟩ := t _ z; rw [h] at e; cases e; exact w) (FT0s.fd t a)
theorem FT0s.fd (t : ∀ a, rh a → ∃ o, H a = some o ∧ Wr o) : ∀ {vs : List V} {ds : List PyData}, FT0s H vs ds → FDs K rh H vs ds
  | _, _, .nil => .nil
  | _, _, .cons a b => .cons (FT0.fd t a) (FT0s.fd t b)
end
mutual
theorem FT0.keep (k : ∀ a xs, H a = some (.tup xs) → H' a = some (.tup xs)) : ∀ {v : V} {d : PyData}, FT0 H v d → FT0 H' v d
  | _, _, .non => .non
  | _, _, .bl b => .bl b
  | _, _, .int i => .int i
  | _, _, .str x => .str x
  | _, _, .tup h a => .tup (k _ _ h) (FT0s.keep k a)
theorem FT0s.keep (k : ∀ a xs, H a = some (.tup xs) → H' a = some (.tup xs)) : ∀ {vs : List V} {ds : List PyData}, FT0s H vs ds → FT0s H' vs ds
  | _, _, .nil => .nil
  | _, _, .cons a b => .cons (FT0.keep k a) (FT0s.keep k b)
end
end
/-- the exception that is held keeps what it keeps -/
def excG (γ : Gc) (b dd : Addr) (u : V) (x : PyData) : Gc := { γ with xa := b, G := fun H => γ.G H ∧ H dd = some (.xd [(("what" : Str), u)]) ∧ FT0 H u x }
theorem excG_ok {γ : Gc} (g : γ.Ok) {b dd : Addr} {u : V} {x : PyData} : (excG γ b dd u x).Ok := by
  refine ⟨fun H p o ⟨a, b', c⟩ n => ⟨g.new H p o a n, ?_, c.keep fun q xs e => ?_⟩, fun H p o o' ⟨a, b', c⟩ e wr => ⟨g.set H p o o' a e wr, ?_, c.keep fun q xs e2 => ?_⟩⟩
  · rw [upd_ne (ne_of_none b' n)]; exact b'
  · rw [upd_ne (ne_of_none e n)]; exact e
  · rw [upd_ne]
    · exact b'
    · intro z
      rw [z, e] at b'
      cases b'
      exact wr
  · rw [upd_ne]
    · exact e2
    · intro z
      rw [z, e] at e2
      cases e2
      exact wr
theorem ConS.exc {γ : Gc} {w : Wd} {st : Store} {H : Hp} {b dd : Addr} {u : V} {x : PyData} (c : ConS γ w st H) (e : H dd = some (.xd [(("what" : Str), u)])) (f : FT0 H u x) : ConS (excG γ b dd u x) ⟨[], w.rh, b⟩ [] H :=
  ⟨rfl, List.nodup_nil, (fun a z => absurd z (by simp)), c.trk, (fun l a cl z => absurd z (by simp)), ⟨c.glob, e, f⟩, rfl⟩
end NL
end
section
set_option Elab.async false
set_option linter.all false
set_option maxRecDepth 100000
set_option maxHeartbeats 4000000
/-! try: return (word, a()); except C as n: suite. -/
namespace NL
open PySem PySem.Spec PyProof.Rows L2

def canS (γ : Gc) (E : XK) (f : FS) : TS := fun D σ H => ∃ w st a, ConS γ w st H ∧ ConE γ.K w H a σ ∧ GoodS γ w H E D (f a st)
theorem SSs.can {X : Cx} {γ : Gc} {E : XK} {b : List Stmt} {f : FS} (h : SSs X γ E b f) : PSs X b (canS γ E f) := by
  obtain ⟨t, q, s⟩ := h
  exact ⟨fun pins st σ H D I ⟨w, z, a, c1, c2, c3⟩ => q.run pins st σ H D I (s w z a σ H D c1 c2 c3)⟩
theorem takes_len {X : Cx} {W : WX} {n : Nat} (hn : X.N.length = n) (tk : L2N.Takes X W) : L2N.Takes X (fun cls d τ J => τ.length = n → W cls d τ J) := fun u s' ⟨a, B, sI, pins, τ, J, cls, d, e, I, z1, z2, z3, z4, z5, z6, z7⟩ =>
  tk u s' ⟨a, B, sI, pins, τ, J, cls, d, e, I, z1, z2, z3, z4, z5, z6, z7 (I.len.trans hn)⟩
theorem takes_none {X : Cx} : L2N.Takes X (fun _ _ _ _ => False) := fun u s' ⟨a, B, sI, pins, τ, J, cls, d, e, I, z1, z2, z3, z4, z5, z6, z7⟩ => z7.elim
/-- what the suite means, told by the class's name and what is kept -/
def suT (γ : Gc) (ns : List Str) (fs : Str → PyData → FS) : Addr → Value → Option Addr → TS := fun b cls d D σ H => ∃ n x dd u, n ∈ ns ∧ noL x = true ∧ γ.mg n = some cls ∧ d = some dd ∧ canS (excG γ b dd u x) E0 (fs n x) D σ H
/-- the def's answer -/
def heardF (word : Str) (ns : List Str) (hs : Str → PyData → PyData) : Out AV → Out AV
  | .ok (.d d) st => .ok (.d (.tuple [.str word, d])) st
  | .exc n x st => if n ∈ ns ∧ noL x = true then .ok (.d (hs n x)) st else .stuck
  | _ => .stuck
theorem heardF_exc {word : Str} {ns : List Str} {hs : Str → PyData → PyData} (o : Out AV) (n : Str) (x : PyData) (s : Store) : heardF word ns hs o ≠ .exc n x s := by
  intro z
  unfold heardF at z
  split at z
  · cases z
  · split at z <;> cases z
  · cases z
theorem heard_gives {X : Cx} {γ : Gc} {Ng : List Str} {x q word : Str} {sg : Scope} {g CS : Addr} {cdg : Value} {a e n : Str} {i j k' : Nat} {b0 : Stmt} {suite : List Stmt} {p1 p2 p3 p4 p5 p6 p7 p8 : Pos} {ns : List Str} {fs : Str → PyData → FS} {hs : Str → PyData → PyData}
    (gok : γ.Ok) (hmg : X.mg = γ.mg) (hN : Ng.Nodup) (h0 : Ng[0]? = some a) (hi : Ng[i]? = some n) (hi0 : i ≠ 0) (hln : sg.names.lookup n = some .local) (hge : sg.names.lookup e = some .globalImplicit) (hme : X.mg e = some (.ref CS)) (hde : e ≠ "__debug__")
    (hex : ∀ m ∈ ns, ∀ cls, X.mg m = some cls → PySem.W.exmOne X.K cls (.ref CS) = some true)
    (hsu : ∀ (s : Shared) (H : Hp) (b : Addr) (oe : Obj) (cls : Value) (d : Option Addr) (pn : List (Addr × Obj)) (m : Str) (y : PyData) (dd : Addr) (u : V), L2N.Zn cls d oe → (∃ vs, oe.data = .fields vs) → m ∈ ns → noL y = true → X.mg m = some cls → d = some dd → Room 2 X.A →
      SSs ((gotX X Ng x sg g cdg s H).nox.suite b ((b, oe) :: pn)) (excG γ b dd u y) E0 (b0 :: suite) (fs m y))
    (hres : ∀ m ∈ ns, ∀ (y : PyData), ∃ st', fs m y ((List.replicate Ng.length none).set i (some (.e 0))) [] = .ok (.rt (.d (hs m y))) st') :
    GivesN X Ng x sg g cdg [.Try [.Return (some (.Tuple [.Constant (.str word) j p1, .Call (.Name a p2) [] [] p3] k' p4)) p5] [.ExceptHandler (some (.Name e p6)) (some n) (b0 :: suite) p7] [] [] p8] a q (GotF γ (heardF word ns hs)) := by
  intro f c' s H Q tl act hco h hcalm
  have hgl : Gl (gotX X Ng x sg g cdg s H).nox e := hge
  have hz0 : (L2.start Ng [V.ref f])[0]? = some (some (V.ref f)) := by
    unfold L2.start
    rfl
  refine ⟨_, pss_one (L2N.ps_try_as (X := (gotX X Ng x sg g cdg s H).nox) (c := .ref CS) (i := i) (Wout := fun _ _ _ _ => False) (ts := suT γ ns fs)
    (tb := fun W D τ J => ∃ Ech : XK, (∀ cls d τ' J', Ech cls d J' → τ'.length = Ng.length → W cls d τ' J') ∧ τ[0]? = some (some (.ref f)) ∧ J c' = some (LamX.CodeO c' q) ∧ tl Ech J fun u J1 => ∀ p, J1 p = none → D.rt (.ref p) (upd J1 p (.tup [.str word, u])))
    rfl rfl hN hi hln ⟨hgl, nbeq hde, .inl hme⟩ takes_none (fun W pn xe tk _ => ?_) fun b oe cls d pn hz hf => ?_), ?_⟩
  · refine ⟨fun pins s' τ J D I h' => ?_⟩
    obtain ⟨Ech, hW, h1, h2, h3⟩ := h'
    have hp := act (fun cls d τ J => τ.length = Ng.length → W cls d τ J) pn xe Ech p2 p3 (takes_len (X := (gotX X Ng x sg g cdg s H).tr pn xe) rfl tk) hW
    have hq := pss_one (ps_ret (pos := p5) (pe_tup (x1 := k') (pos := p4) (pa_cons (pe_str (x := word) (j := j) (pos := p1)) (pa_cons hp pa_nil (by rfl)) (by rfl))))
    exact hq.run pins s' τ J D I ⟨h1, h2, by
      have e1 : (fun u J1 => ∀ p, J1 p = none → D.rt (.ref p) (upd J1 p (.tup [.str word, u]))) = fun u J1 => (2 : Nat) ≤ sizeLine ∧ ∀ p, J1 p = none → D.rt (.ref p) (upd J1 p (.tup [.str word, u])) := by
        funext u J1
        exact propext ⟨fun z => ⟨by rw [sizeLine_eq]; omega, z⟩, fun z => z.2⟩
      rw [e1] at h3
      exact h3⟩
  · refine ⟨fun pins s' τ J D I h' => ?_⟩
    obtain ⟨m, y, dd, u, hm, hy, hc, hd, h'⟩ := h'
    exact (hsu s H b oe cls d pn m y dd u hz hf hm hy (by rw [hmg]; exact hc) hd hcalm).can.run pins s' τ J D I h'
  · obtain ⟨w, st, o, c, htl, hF⟩ := h
    refine ⟨fun cls d J => ∃ n x s, o = .exc n x s ∧ Ext w.al H J ∧ ConS γ w s J ∧ ExcR γ w J n x cls d, fun cls d τ J hE hl => ?_, hz0, hco, htl _ _ ?_⟩
    · obtain ⟨m, y, sx, ho, ex, cx, er⟩ := hE
      rw [ho] at hF
      simp only [heardF] at hF
      split at hF
      · rename_i hm
        obtain ⟨hmc, dd, u, hdd, hx, fd⟩ := er
        refine ⟨true, hex m hm.1 cls (by rw [hmg]; exact hmc), fun _ b hb => ?_, fun z => by cases z⟩
        refine ⟨m, y, dd, u, hm.1, hm.2, hmc, hdd, ⟨[], w.rh, b⟩, [], (List.replicate Ng.length none).set i (some (.e 0)), ?_, ?_, ?_⟩
        · exact ConS.exc cx hx (FD.t0 fd hm.2)
        · refine ⟨by simp [hl], fun l v hv => ?_⟩
          have hlt : i < Ng.length := (List.getElem?_eq_some_iff.mp hi).1
          by_cases hli : l = i
          · subst hli
            rw [List.getElem?_set_self (by simpa using hlt)] at hv
            cases hv
            exact ⟨.ref b, by rw [List.getElem?_set_self (by omega)], rfl⟩
          · rw [List.getElem?_set_ne (Ne.symm hli), List.getElem?_replicate] at hv
            split at hv <;> cases hv
        · obtain ⟨st', er⟩ := hres m hm.1 y
          rw [er]
          intro w' u' J' gr ex' c1 r
          exact hF u' J' (ex.trans (ext_nil ex' _)) (cx.ext0 ex' c1.glob.1) (FD.less gr.rh r)
      · exact hF.elim
    · cases o with
      | ok v sx =>
        cases v with
        | d d =>
          intro u J ex cx r p hp
          obtain ⟨c2, e2⟩ := cx.laid gok (o := .tup [.str word, u]) hp
          have ns : ¬ w.rh p := fun z => by
            obtain ⟨o, ho, _⟩ := cx.trk p z
            rw [hp] at ho
            cases ho
          exact hF _ _ (ex.trans e2) c2 (.tup (xs := [.str word, u]) upd_same ns (.cons (.str word) (.cons (FD.ext e2 cx.sub r) .nil)))
        | r l => exact hF.elim
        | c _ => exact hF.elim
        | z _ => exact hF.elim
        | e _ => exact hF.elim
      | exc m y sx => exact fun cls d J ex cx er => ⟨m, y, sx, rfl, ex, cx, er⟩
      | stuck => exact hF.elim
end NL
end
section
set_option Elab.async false
set_option linter.all false
set_option maxRecDepth 100000
set_option maxHeartbeats 4000000
/-! What is told of the exception that is held. -/
namespace NL
open PySem PySem.Spec PyProof.Rows L2

section
variable {Y : Cx} {γ : Gc} {b dd C : Addr} {oe : Obj} {pn : List (Addr × Obj)} {u : V} {x : PyData}
theorem inst_own {pins : List (Addr × Obj)} {σ : L2.St} {H : Hp} {s : Shared} {fs : List (Str × V)} (hz : L2N.Zn (.ref C) (some dd) oe) (hf : ∃ vs, oe.data = .fields vs) (I : Inv (Y.suite b ((b, oe) :: pn)) pins σ H s) (hd : H dd = some (.xd fs)) :
    ∃ od, PySem.W.InstAt s.heap b oe C (some od) := by
  obtain ⟨ha, _⟩ := I.pin (b, oe) (List.mem_append_left _ List.mem_cons_self)
  obtain ⟨vs, hv⟩ := hf
  have hx : ObjOk Y.prog Y.w H s.heap dd (.xd fs) := I.hok dd _ hd
  obtain ⟨mA, hns, hr⟩ := hx
  obtain ⟨od, ho, hl⟩ := lookIn_ns hns
  exact ⟨od, ha, hz.1, by unfold PySem.W.notCls; rw [hv] <;> rfl, by rw [hz.2.1]; exact ho⟩
def rIsX (K : PySem.W.Frag) (C b dd : Addr) : List V → Hp → VK → Prop := fun xs H Q => ∃ (CT : Addr) (r : Bool) (fs : List (Str × V)), xs = [.ref b, .ref CT] ∧ PySem.W.kitOne K (.ref C) (.ref CT) = some r ∧ H dd = some (.xd fs) ∧ Q (.bl r) H
theorem call_isX (E1 : ExcC Y.K C) (hz : L2N.Zn (.ref C) (some dd) oe) (hf : ∃ vs, oe.data = .fields vs) : CallR (Y.suite b ((b, oe) :: pn)) (.builtin "isinstance") (rIsX Y.K C b dd) := by
  intro pins s σ H xs us Q I r h
  obtain ⟨CT, v, fs, rfl, e, hd, q⟩ := h
  cases r with
  | cons r1 rr =>
    cases rr with
    | cons r2 rr =>
      cases rr
      cases r1
      cases r2
      obtain ⟨od, J⟩ := inst_own hz hf I hd
      have hcl : (PySem.W.clsIn Y.K C).isSome = true := by
        obtain ⟨cd, hc, _⟩ := PySem.W.any_some E1.hd
        rw [hc]
        rfl
      exact PySem.W.kia_one (PySem.W.kitx_exc hcl E1.hg E1.hk E1.hs E1.ha E1.hn E1.ht E1.hm) I.kIn J e (fun z => nomatch z) fun tk => ⟨.bl v, H, I.kept (t' := tk) fun _ _ z => z, rfl, q⟩
variable {c : Cfg} {v n : Str} {E : XK}
theorem held_suite (hK : Y.K = γ.K) (hN : Y.N = c.N) (hsc : Y.env.scope = c.sc) (hz : L2N.Zn (.ref C) (some dd) oe) (hf : ∃ vs, oe.data = .fields vs) (hc : c.exv = some (v, n, x)) (E1 : ExcC Y.K C) (nw : PySem.W.findIn Y.K (.ref C) "what" = some none) (hib : Y.mg "isinstance" = none)
    (hT : ∀ T ∈ c.exs, ∃ CT : Addr, Y.mg T = some (.ref CT) ∧ PySem.W.kitOne Y.K (.ref C) (.ref CT) = some (c.sub n T)) : Held (Y.suite b ((b, oe) :: pn)) (excG γ b dd u x) E c := by
  have gl : ∀ {y : Str}, c.gl y = true → Gl (Y.suite b ((b, oe) :: pn)) y := fun {y} h => by
    show Y.env.scope.names.lookup y = _
    rw [hsc]
    exact (gl_ok h).1
  have pv : ∀ {i : Nat} {q : Pos}, c.ix v = some i → PE (Y.suite b ((b, oe) :: pn)) (.Name v q) (tVar i) := fun {i q} h => by
    obtain ⟨h1, h2, n1, n2⟩ := ix_ok h
    refine pe_var (by rw [← hN] at h2; exact h2) ?_ (nbeq n1) (nbeq n2)
    show Vis Y.env.scope v
    rw [hsc]
    exact h1
  refine ⟨fun v' n' d' e T hm hg hi p q r pos => ?_, fun v' n' d' e q pos => ?_, fun _ => ⟨b, hot_suite hz.2.2 hf⟩⟩
  · rw [hc] at e
    cases e
    unfold excIs
    cases hix : c.ix v with
    | none => exact ⟨_, pe_stop, fun w st a σ H Q _ _ h => h.elim⟩
    | some i =>
      obtain ⟨CT, hCT, hk⟩ := hT T hm
      refine ⟨_, pe_callB (call_isX E1 hz hf) (gl hi) hib Boot.«isinstance» (pa_cons (pv hix) (pa_cons (pe_glob (v := .ref CT) (gl hg) hCT rfl (nbeq (gl_ok hg).2.1)) pa_nil (by rfl)) (by rfl)) (by decide) (by decide) (by rfl) (by rfl), fun w st a σ H Q c1 ce h => ?_⟩
      dsimp only at h
      split at h
      · rename_i z hz2
        obtain ⟨w', hw, hv⟩ := ce.at_ _ _ hz2
        have hv : w' = .ref w.xa := hv
        have hx : w.xa = b := c1.xa
        refine ⟨w', hw, CT, c.sub n T, _, by rw [hv, hx], hk, c1.glob.2.1, ?_⟩
        exact h _ _ (Ext.refl _ _) c1 (.bl _)
      · exact h.elim
  · rw [hc] at e
    cases e
    unfold excGet
    cases hix : c.ix v with
    | none => exact ⟨_, pe_stop, fun w st a σ H Q _ _ h => h.elim⟩
    | some i =>
      refine ⟨_, pe_xf (C := C) (cls := .ref C) (d := some dd) ⟨E1.hg, E1.hk, E1.hs, E1.hd⟩ nw ⟨hz.1, hz.2.1⟩ hf (pv hix) (by rfl), fun w st a σ H Q c1 ce h => ?_⟩
      dsimp only at h
      split at h
      · rename_i z hz2
        obtain ⟨w', hw, hv⟩ := ce.at_ _ _ hz2
        have hv : w' = .ref w.xa := hv
        have hx : w.xa = b := c1.xa
        refine ⟨w', hw, by rw [hv, hx], rfl, dd, _, u, rfl, c1.glob.2.1, rfl, ?_⟩
        exact h _ _ (Ext.refl _ _) c1 (FT0.fd c1.trk c1.glob.2.2)
      · exact h.elim
end
end NL
end
section
set_option Elab.async false
set_option linter.all false
set_option maxRecDepth 100000
set_option maxHeartbeats 4000000
/-! The suite's meaning is the evaluator's. -/
namespace NL
open PySem PySem.Spec PyProof.Rows L2

theorem hsu_ev {X : Cx} {γ : Gc} {Ng : List Str} {x : Str} {sg : Scope} {g : Addr} {cdg : Value} {c : Cfg} {v m : Str} {y : PyData} {s : Shared} {H : Hp} {b C dd : Addr} {oe : Obj} {pn : List (Addr × Obj)} {u : V} {su : List Stmt} {n k : Nat}
    (gok : γ.Ok) (hK : X.K = γ.K) (hN : Ng = c.N) (nd : c.N.Nodup) (hsc : sg = c.sc) (kind : c.sc.kind = .function) (hot : c.hot = true) (grd : c.grd = false) (free : ∀ z ∈ bltNames, X.mg z = none) (cst : ∀ z, c.cst z = none) (hc : c.exv = some (v, m, y))
    (room : Room 2 X.A) (hz : L2N.Zn (.ref C) (some dd) oe) (hf : ∃ vs, oe.data = .fields vs) (E1 : ExcC X.K C) (nw : PySem.W.findIn X.K (.ref C) "what" = some none)
    (hT : ∀ T ∈ c.exs, ∃ CT : Addr, X.mg T = some (.ref CT) ∧ PySem.W.kitOne X.K (.ref C) (.ref CT) = some (c.sub m T)) :
    SSs ((gotX X Ng x sg g cdg s H).nox.suite b ((b, oe) :: pn)) (excG γ b dd u y) E0 su (blk (ev n) c su) := by
  have hx : Hx ((gotX X Ng x sg g cdg s H).nox.suite b ((b, oe) :: pn)) (excG γ b dd u y) E0 k c := by
    refine ⟨excG_ok gok, hK, hN, nd, hsc, kind, fun z => ?_, ?_, fun z => ?_, fun z => ?_, free, fun z i e => ?_, fun z => ?_, fun z => ?_, fun z i e => ?_, ?_⟩
    · rw [hot] at z; cases z
    · have := room.un
      show X.A.units + 3 + 64 < _
      omega
    · rw [hot] at z; cases z
    · rw [grd] at z; cases z
    · exact .inl rfl
    · rw [hot] at z; cases z
    · rw [hot] at z; cases z
    · rw [cst z] at e; cases e
    · exact pass_e0 _
  refine ss_blk (sndS_ev n) (k := k) ⟨⟨hx, (fun z f _ h => absurd (hot.symm.trans h) (by decide)), ?_⟩, PassesOwn.never, (fun z _ _ h => absurd (hot.symm.trans h) (by decide))⟩ su
  exact held_suite (Y := (gotX X Ng x sg g cdg s H).nox) hK hN hsc hz hf hc E1 nw (free _ (by decide)) hT
end NL
end
section
set_option Elab.async false
set_option linter.all false
set_option maxRecDepth 100000
set_option maxHeartbeats 400000
/-! The lambda's context; the told rule. -/
namespace NL
open PySem PySem.Spec PyProof.Rows L2

theorem pass_lam {X : Cx} {A : Around} {outer : List PySem.Env} {s : Shared} {H : Hp} {E : XK} {scope : Scope} {f c' : Addr} : Passes (L2N.CX X.prog X.w) (lamN X A outer s H E scope f c') E :=
  L2N.passes_call (X := lamN X A outer s H E scope f c') (W := fun cls d _ H => E cls d H) (L2N.takes_of (E := E) rfl rfl rfl rfl) fun _ _ _ _ h => h
theorem hx_lam {X : Cx} {γ : Gc} {E E' : XK} {k k' : Nat} {c : Cfg} (h : Hx X γ E k c) (fl : ∀ x d, c.fnsL x = some d → CalG X.prog X.w X.K X.mg X.base γ false k' x d) {A : Around} {outer : List PySem.Env} {s : Shared} {H : Hp} {scope : Scope} {f c' : Addr} (hl : LamX.lamSB c.sc scope = true)
    (room : Room k' (A.deeper (LamX.lamEnv X scope s.heap.objs.size f c'))) : Hx (lamN X A outer s H E' scope f c') γ E' k' (c.lam scope) := by
  refine ⟨h.g, h.K, h.N, h.nd, rfl, (LamX.lamS_by hl).kind, fun _ => rfl, room.units, fun _ => room, fun z => ?_, h.free, fun x i e => ?_, fun _ => fl, fun _ => fl, h.cst, pass_lam (X := X) (A := A) (outer := outer) (s := s) (H := H) (E := E') (scope := scope) (f := f) (c' := c')⟩
  · cases (show false = true from z)
  · obtain ⟨_, q, _⟩ := sx_ok e
    have q : ([] : List Nat).contains i = true := q
    simp at q
theorem no_bind {a : Arguments} (h : noArgs a = true) (body : Expr) (scope : Scope) : noBind a body scope := by
  intro q cl pm cv ctv
  obtain ⟨p1, p2, p3, p4, p5, p6, p7⟩ := a
  simp only [noArgs, Bool.and_eq_true, List.isEmpty_iff, Option.isNone_iff_eq_none] at h
  obtain ⟨⟨⟨⟨⟨⟨h1, h2⟩, h3⟩, h4⟩, h5⟩, h6⟩, h7⟩ := h
  subst h1 h2 h3 h4 h5 h6 h7
  rfl
theorem no_def {a : Arguments} (h : noArgs a = true) (env : PySem.Env) : defaultsOf a env = ([], []) := by
  obtain ⟨p1, p2, p3, p4, p5, p6, p7⟩ := a
  simp only [noArgs, Bool.and_eq_true, List.isEmpty_iff, Option.isNone_iff_eq_none] at h
  obtain ⟨⟨⟨⟨⟨⟨h1, h2⟩, h3⟩, h4⟩, h5⟩, h6⟩, h7⟩ := h
  subst h1 h2 h3 h4 h5 h6 h7
  rfl
/-- the def that hears -/
structure Hears (P : Program) (w : World) (K : PySem.W.Frag) (mg : Str → Option Value) (base : Heap) (γ : Gc) (x : Str) (F : Out AV → Out AV) : Prop where
  ex : ∃ (a : Str) (g : Addr) (pg : Arguments) (bg : List Stmt) (sg : Scope) (dV kV doc pm cdv ct oc : Value) (an od : Option Addr) (osl : Array (Option Value)) (Ng : List Str),
    mg x = some (.ref g) ∧ PySem.W.keepIn K (.ref g) = true ∧ K.lookup g = some ⟨oc, od, .func (PySem.W.fnOf x x pg bg sg dV kV doc pm an cdv ct), osl⟩ ∧ PySem.W.codeIn K cdv x = true ∧ L2.Binds K (PySem.W.fnOf x x pg bg sg dV kV doc pm an cdv ct) [a] [] ∧
      FnScope Ng [a] sg ∧ Ng[0]? = some a ∧ Vis sg a ∧ a ≠ "__debug__" ∧ a ≠ "__classdict__" ∧ (∀ o n y s, F o ≠ .exc n y s) ∧
      ∀ (X : Cx) (q : Str), X.prog = P → X.w = w → X.K = K → X.mg = mg → X.base = base → GivesN X Ng x sg g cdv bg a q (GotF γ F)
/-- what a def that makes lambdas must have -/
structure Makes (X : Cx) (T : List (Addr × Str)) : Prop where
  ex : ∃ c P : Addr, LamX.TabB X.base X.mg c P ∧ X.env.code = .ref c ∧ (P, X.env.qual ++ "<lambda>") ∈ T ∧ ∀ p ∈ T, p.1 = P → p.2 = X.env.qual ++ "<lambda>"
theorem told_ok {X : Cx} {γ : Gc} {E : XK} {k : Nat} {c : Cfg} {T : List (Addr × Str)} {x : Str} {F : Out AV → Out AV} (h : Hx X γ E (k + 2) c) (hh : c.hot = false) (fl : ∀ x d, c.fnsL x = some d → CalG X.prog X.w X.K X.mg X.base γ false k x d) (hG : γ.G = LamX.Tabs T)
    (hr : Hears X.prog X.w X.K X.mg X.base γ x F) (mk : Makes X T) (gl : c.gl x = true) {a : Arguments} {body : Expr} {scope : Scope} {lpos p pos : Pos} {b : FE} (hn : noArgs a = true) (hl : LamX.lamSB c.sc scope = true)
    (hb : ∀ X' E' k', Hx X' γ E' k' (c.lam scope) → k + 2 ≤ k' + 2 → SE X' γ E' body b) : SE X γ E (.Call (.Name x p) [.Lambda a body scope lpos] [] pos) (fun e st => F (b e st)) := by
  obtain ⟨ar, g, pg, bg, sg, dV, kV, doc, pm, cdv, ct, oc, an, od, osl, Ng, h1, h2, h3, h4, h5, h6, h7, h8, h9, h10, h11, h12⟩ := hr.ex
  obtain ⟨cd, P, t1, t2, t3, t4⟩ := mk.ex
  have L : LamX.LamS X.env.scope scope := by
    rw [h.sc]
    exact LamX.lamS_by hl
  refine se_told hG h11 (lamcall_N (t := fun E' => canE γ E' b) (h.gl gl) h1 h2 h3 h4 h5 h6 h7 h8 (h12 X _ rfl rfl rfl rfl rfl) t1 t2 t3 t4 (h.room hh) L (no_def hn _) (no_bind hn _ _) (fun A outer s H E' f c' room => ?_) (gl_ok gl).2.1 h9 h10)
  exact (hb _ E' k (hx_lam h fl hl room) (Nat.le_refl _)).can
end NL
end
section
set_option Elab.async false
set_option linter.all false
set_option maxRecDepth 100000
set_option maxHeartbeats 400000
/-! The def that hears, from its facts. -/
namespace NL
open PySem PySem.Spec PyProof.Rows L2
structure ClsF (K : PySem.W.Frag) (mg : Str → Option Value) (CS : Addr) (exs : List Str) (sub : Str → Str → Bool) (m : Str) : Prop where
  ex : ∃ C : Addr, mg m = some (.ref C) ∧ ExcC K C ∧ PySem.W.findIn K (.ref C) "what" = some none ∧ PySem.W.exmOne K (.ref C) (.ref CS) = some true ∧ ∀ T ∈ exs, ∃ CT : Addr, mg T = some (.ref CT) ∧ PySem.W.kitOne K (.ref C) (.ref CT) = some (sub m T)
theorem gives_ev {X : Cx} {γ : Gc} {Ng : List Str} {x q word : Str} {sg : Scope} {g CS : Addr} {cdg : Value} {a e v : Str} {i j k' n : Nat} {b0 : Stmt} {suite : List Stmt} {p1 p2 p3 p4 p5 p6 p7 p8 : Pos} {ns : List Str} {c : Str → PyData → Cfg} {exs : List Str} {sub : Str → Str → Bool} {hs : Str → PyData → PyData}
    (gok : γ.Ok) (hK : X.K = γ.K) (hmg : X.mg = γ.mg) (hN : Ng.Nodup) (h0 : Ng[0]? = some a) (hi : Ng[i]? = some v) (hi0 : i ≠ 0) (hln : sg.names.lookup v = some .local) (hge : sg.names.lookup e = some .globalImplicit) (hme : X.mg e = some (.ref CS)) (hde : e ≠ "__debug__") (kind : sg.kind = .function)
    (free : ∀ z ∈ bltNames, X.mg z = none) (hc : ∀ m y, (c m y).N = Ng ∧ (c m y).sc = sg ∧ (c m y).hot = true ∧ (c m y).grd = false ∧ (∀ z, (c m y).cst z = none) ∧ (c m y).exv = some (v, m, y) ∧ (c m y).exs = exs ∧ (c m y).sub = sub)
    (hcl : ∀ m ∈ ns, ClsF X.K X.mg CS exs sub m) (hres : ∀ m ∈ ns, ∀ (y : PyData), ∃ st', blk (ev n) (c m y) (b0 :: suite) ((List.replicate Ng.length none).set i (some (.e 0))) [] = .ok (.rt (.d (hs m y))) st') :
    GivesN X Ng x sg g cdg [.Try [.Return (some (.Tuple [.Constant (.str word) j p1, .Call (.Name a p2) [] [] p3] k' p4)) p5] [.ExceptHandler (some (.Name e p6)) (some v) (b0 :: suite) p7] [] [] p8] a q (GotF γ (heardF word ns hs)) := by
  refine heard_gives (fs := fun m y => blk (ev n) (c m y) (b0 :: suite)) gok hmg hN h0 hi hi0 hln hge hme hde (fun m hm cls hcls => ?_) (fun s H b oe cls d pn m y dd u hz hf hm hy hcls hd room => ?_) hres
  · obtain ⟨C, h1, _, _, h2, _⟩ := (hcl m hm).ex
    rw [h1] at hcls
    cases hcls
    exact h2
  · obtain ⟨C, h1, h2, h3, _, h4⟩ := (hcl m hm).ex
    obtain ⟨k1, k2, k3, k4, k5, k6, k7, k8⟩ := hc m y
    rw [h1] at hcls
    cases hcls
    subst hd
    exact hsu_ev (k := 0) gok hK k1.symm (by rw [k1]; exact hN) k2.symm (by rw [k2]; exact kind) k3 k4 free k5 k6 room hz hf h2 h3 (by rw [k7, k8]; exact h4)
end NL
end
section
set_option Elab.async false
set_option linter.all false
set_option maxRecDepth 100000
set_option maxHeartbeats 400000
/-! The law's call, where the guards are known. -/
namespace NL
open PySem PySem.Spec PyProof.Rows L2

abbrev tabO : Obj := { cls := .none, data := .fields #[] }
abbrev lstO (vs : List Value) : Obj := { cls := .type "list", data := .seq vs.toArray }
/-- what is tracked when the law is called: the tables, the script -/
def headH (ts : List Addr) (K : PySem.W.Frag) (a : Addr) (vs : List Value) (ns : List Int) : Hp := fun b =>
  if b ∈ ts then some (.tbl #[]) else if b = a ∧ K.lookup a = none then some (.frz (lstO vs) (.lst (ns.map V.int))) else none
section
variable {h : Heap} {ts : List Addr} {K : PySem.W.Frag} {a : Addr} {vs : List Value} {ns : List Int}
theorem headH_some {b : Addr} {u : HO} (e : headH ts K a vs ns b = some u) : (b ∈ ts ∧ u = .tbl #[]) ∨ (b = a ∧ K.lookup a = none ∧ u = .frz (lstO vs) (.lst (ns.map V.int))) := by
  unfold headH at e
  split at e
  · rename_i hb
    exact .inl ⟨hb, (Option.some.inj e).symm⟩
  · split at e
    · rename_i hb
      exact .inr ⟨hb.1, hb.2, (Option.some.inj e).symm⟩
    · cases e
theorem headH_tab {b : Addr} (m : b ∈ ts) : headH ts K a vs ns b = some (.tbl #[]) := if_pos m
/-- an object of another form is not tracked -/
theorem headH_free (ht : ∀ b ∈ ts, h.get? b = some tabO) (ha : h.get? a = some (lstO vs)) {b : Addr} {o : Obj} (e : h.get? b = some o) (n1 : o.data ≠ .fields #[]) (n2 : o.data ≠ (lstO vs).data) : headH ts K a vs ns b = none := by
  cases q : headH ts K a vs ns b with
  | none => rfl
  | some u =>
    rcases headH_some q with ⟨m, _⟩ | ⟨m, _, _⟩
    · rw [ht b m] at e
      exact absurd (congrArg Obj.data (Option.some.inj e)).symm n1
    · subst m
      rw [ha] at e
      exact absurd (congrArg Obj.data (Option.some.inj e)).symm n2
end
theorem law_callG {P : Program} {w : World} {K : PySem.W.Frag} {mg mb : Str → Option Value} {k : Nat} {fa a : Addr} {cs : List (Addr × Addr)} {fd : FuncData} {x : Str} {sp : Sp} {s : Shared} {vs : List Value} {ns : List Int}
    (kin : K.In s.heap) (gns : s.heap.Ns mainGlobals mg) (bns : s.heap.Ns builtinsNs mb) (bb : ∀ x : Str, x ≠ "__name__" → mb x = bootBuiltins x) (lim : s.heap.NoLimit) (gen : s.gens = #[])
    (tabs : ∀ p ∈ cs, s.heap.get? p.2 = some tabO ∧ K.lookup p.2 = none ∧ PySem.W.CodeHd s.heap p.1 p.2)
    (bmo : ∃ (m : Addr) (o : Obj), mg "__builtins__" = some (.ref m) ∧ m ≠ builtinsNs ∧ s.heap.get? m = some o ∧ o.cls = .type "module" ∧ o.dict = some builtinsNs ∧ o.data = .plain)
    (obj : s.heap.get? a = some (lstO vs)) (hin : IntsAre vs ns) (short : ns.length ≤ sizeLine) (room : Room k callerA)
    (fn : ∀ base : Heap, K.In base → base.Ns mainGlobals mg → (∀ p ∈ cs, LamX.TabB base mg p.1 p.2) → FnG P w K mg base true k fa fd [x] sp) (bind : ∀ (z : Shared) (u : Value), BindsTo z fd ⟨[u], []⟩ [(x, u)])
    (hsp : ∀ H : Hp, (∀ p ∈ cs, H p.2 = some (.tbl #[])) → SqL K H a (ns.map V.int) → sp [.ref a] H (fun v _ => v = .bl true) fun _ _ _ => False) :
    codeAny (model P w) callerA (.call (.ref fa) ⟨[.ref a], []⟩) (fun r s' => r = .ok (.ret (.bool true)) ∧ OldK s.heap s'.heap ∧ s'.os = s.os ∧ AllBare s'.gens) s := by
  have mem : ∀ p ∈ cs, p.2 ∈ cs.map (·.2) := fun p hp => List.mem_map.mpr ⟨p, hp, rfl⟩
  have ht : ∀ b ∈ cs.map (·.2), s.heap.get? b = some tabO ∧ K.lookup b = none := fun b m => by
    obtain ⟨p, hp, rfl⟩ := List.mem_map.mp m
    exact ⟨(tabs p hp).1, (tabs p hp).2.1⟩
  generalize hts : cs.map (·.2) = ts at mem ht
  let H : Hp := headH ts K a vs ns
  have free : ∀ {b : Addr} {o : Obj}, s.heap.get? b = some o → o.data ≠ .fields #[] → o.data ≠ (lstO vs).data → H b = none := fun e n1 n2 => headH_free (fun b m => (ht b m).1) obj e n1 n2
  have see : ∀ {b : Addr} {o : Obj}, s.heap.get? b = some o → H b = none → (hidT s.heap H).get? b = some o := fun e n => hidT_get e n
  have ns' : ∀ {b : Addr} {m : Str → Option Value}, s.heap.Ns b m → (hidT s.heap H).Ns b m := fun {b m} q => by
    obtain ⟨o, es, ep, e, d, r⟩ := q
    exact ⟨o, es, ep, see e (free e (by rw [d]; exact fun z => by cases z) (by rw [d]; exact fun z => by cases z)), d, r⟩
  have kB : K.In (hidT s.heap H) := fun b o e => see (kin b o e) (by
    cases q : H b with
    | none => rfl
    | some u =>
      rcases headH_some q with ⟨m, _⟩ | ⟨m, n, _⟩
      · rw [(ht b m).2] at e; cases e
      · rw [m, n] at e; cases e)
  have md : L2.Mod K mg (hidT s.heap H) := by
    obtain ⟨mc, l1, l2⟩ := lim
    exact ⟨kB, ns' gns, ⟨mb, ns' bns, bb⟩, ⟨mc, ns' l1, l2⟩⟩
  have tb : ∀ p ∈ cs, LamX.TabB (hidT s.heap H) mg p.1 p.2 := fun p hp => by
    obtain ⟨t1, t2, t3⟩ := tabs p hp
    refine ⟨?_, ?_, fun z => ?_⟩
    · obtain ⟨o, us, f1, f2, f3, f4, f5, f6, f7, e1, r1, r2, r3, rest⟩ := t3
      refine ⟨o, us, f1, f2, f3, f4, f5, f6, f7, see e1 (free e1 (fun z => ?_) fun z => ?_), r1, r2, r3, rest⟩
      · rw [r2] at z
        cases z
        simp at r3
      · rw [r2] at z
        cases z
    · obtain ⟨m, o, b1, b2, b3, b4, b5, b6⟩ := bmo
      refine ⟨m, o, b1, b2, fun q => ?_, fun q => ?_, see b3 (free b3 (by rw [b6]; exact fun z => by cases z) (by rw [b6]; exact fun z => by cases z)), b4, b5, b6⟩
      · obtain ⟨o2, es, ep, e, d, _⟩ := gns
        rw [q, e] at b3
        cases b3
        rw [d] at b6
        cases b6
      · rw [q, t1] at b3
        cases b3
        cases b6
    · obtain ⟨o2, es, ep, e, d, _⟩ := gns
      rw [z, t1] at e
      cases e
      cases d
  have rv := vals_ints hin
  have hok : HOk P w H s.heap := fun b u q => by
    rcases headH_some q with ⟨m, rfl⟩ | ⟨rfl, _, rfl⟩
    · exact (ht b m).1
    · exact ⟨obj, by rw [List.length_map]; exact short, vs, _, rv, obj⟩
  have script : SqL K H a (ns.map V.int) := by
    have na : a ∉ ts := fun m => by
      have z := (ht a m).1
      rw [obj] at z
      cases congrArg Obj.data (Option.some.inj z)
    cases q : K.lookup a with
    | none => exact .inl (.inr ⟨lstO vs, show headH ts K a vs ns a = _ by unfold headH; rw [if_neg na, if_pos ⟨rfl, q⟩]⟩)
    | some o =>
      have e := kin a o q
      rw [obj] at e
      cases e
      exact .inr ⟨_, vs.toArray, _, q, rfl, rfl, rfl, by rw [List.size_toArray, hin.length]; exact short, by simpa using rv⟩
  have env : Env0 P w K mg (hidT s.heap H) callerA [] s H := ⟨rfl, md, fun b o e => of_hidT e, Nat.le_of_eq (hidT_size _ _), trivial, fun b hb => absurd hb (List.not_mem_nil), hok, .of_eq gen⟩
  refine codeAny_mono ((fn _ kB (ns' gns) tb).run callerA [] s H ⟨[.ref a], []⟩ [.ref a] [.ref a] _ _ (fun _ => rfl) room env (bind s (.ref a)) (.cons rfl .nil) (hsp H (fun p hp => headH_tab (mem p hp)) script)) fun r s' q => ?_
  match r, q with
  | .error e, q =>
    obtain ⟨_, _, _, _, _, _, _, _, _, _, _, _, z⟩ := q
    exact z.elim
  | .ok .next, q => exact False.elim q
  | .ok .brk, q => exact False.elim q
  | .ok .cont, q => exact False.elim q
  | .ok (.ret u), q =>
    obtain ⟨v, H', os, bare, un, hok', rel, hv⟩ := q
    subst hv
    obtain rfl : u = Value.bool true := rel
    have tab' : ∀ b ∈ ts, ∃ more : Array Value, s'.heap.get? b = some { cls := .none, data := .fields more } := fun b m => by
      obtain ⟨more, z⟩ := un.tbls b #[] (headH_tab m)
      exact ⟨_, hok' b _ z⟩
    have other : ∀ b o, b ∉ ts → s.heap.get? b = some o → s'.heap.get? b = some o := fun b o nb e => by
      cases q : H b with
      | none => exact un.keep b o e q List.not_mem_nil List.not_mem_nil
      | some u =>
        rcases headH_some q with ⟨m, _⟩ | ⟨rfl, _, rfl⟩
        · exact absurd m nb
        · have h1 := hok' b _ (un.frzs b _ _ q)
          have h2 := hok b _ q
          rw [h2.1] at e
          cases e
          exact h1.1
    refine ⟨rfl, ⟨fun b o e => ?_, fun b o e => ?_⟩, os, bare⟩
    · by_cases m : b ∈ ts
      · obtain ⟨more, g⟩ := tab' b m
        rw [(ht b m).1] at e
        cases e
        subst hts
        obtain ⟨p, hp, rfl⟩ := List.mem_map.mp m
        exact .inr (.inl ⟨((tabs p hp).2.2.tab (tabs p hp).1).isCodeTable, rfl, #[], more, rfl, by rw [Array.empty_append]; exact g⟩)
      · exact .inl (other b o m e)
    · by_cases m : b ∈ ts
      · exact let ⟨more, g⟩ := tab' b m; ⟨_, g⟩
      · exact ⟨o, other b o m e⟩
theorem walkG {l : PySem.W.OpenLaw} {n k : Nat} {q : Program} {loose : List Str} {XP : (Str → Option Value) → Heap → Prop} {YP : World → Heap → Prop} {d : DefRec} {x : Str}
    (hn : l.most = some n) (hn2 : n ≤ sizeLine) (hdf : d.params.defaults = []) (room : Room k callerA)
    (F : ∀ (w : World) (mg : Str → Option Value) (fa : Addr) (h : Heap), YP w h → h.Ns mainGlobals mg → mg d.name = some (.ref fa) → ∃ (K : PySem.W.Frag) (fd : FuncData) (cs : List (Addr × Addr)) (sp : Sp), K.In h ∧
      (∀ p ∈ cs, h.get? p.2 = some tabO ∧ K.lookup p.2 = none ∧ PySem.W.CodeHd h p.1 p.2) ∧ (∀ (z : Shared) (u : Value), BindsTo z fd ⟨[u], []⟩ [(x, u)]) ∧
      (∀ (H : Hp) (a : Addr) (ns : List Int), ns.length ≤ n → (∀ z ∈ ns, Builtin.Int.intBits z ≤ 1048576) → (∀ p ∈ cs, H p.2 = some (.tbl #[])) → SqL K H a (ns.map V.int) → sp [.ref a] H (fun v _ => v = .bl true) fun _ _ _ => False) ∧
      ∀ base : Heap, K.In base → base.Ns mainGlobals mg → (∀ p ∈ cs, LamX.TabB base mg p.1 p.2) → FnG l.prog w K mg base true k fa fd [x] sp) :
    PySem.W.WalkO q loose XP YP l.row.toRowW d [] (fun f vs => PySem.call f vs) := by
  refine Att.attach_callB hn hdf fun w s0 s1 mg mb fa o pm cd doc a vs ns G Y ho hd hcd hmg hobj hints hlen hbits hg => ?_
  obtain ⟨K, fd, cs, sp, kin, tabs, bind, hsp, fn⟩ := F w mg fa _ Y G.T.g hmg
  exact law_callG kin G.T.g G.T.b G.T.builtins G.T.nolimit hg tabs G.T.bmain hobj hints (Nat.le_trans hlen hn2) room fn bind (fun H t z => hsp H a ns hlen hbits t z)
end NL
end
section
set_option Elab.async false
set_option linter.all false
set_option maxRecDepth 100000
set_option maxHeartbeats 400000
/-! Meanings by fuel; all defs keep them. -/
namespace NL
open PySem PySem.Spec PyProof.Rows L2

/-! ### parameters -/
def parB (p : Arguments) (ps : List Str) : Bool := p.posonlyargs.isEmpty && decide (p.args.map (·.arg) = ps) && p.vararg.isNone && p.kwonlyargs.isEmpty && p.kw_defaults.isEmpty && p.kwarg.isNone && p.defaults.isEmpty && decide (ps.length ≤ 4) && decide ps.Nodup
theorem par_bind {p : Arguments} {ps : List Str} (h : parB p ps = true) {body : List Stmt} {scope : Scope} {x q : Str} {kV doc pm cdv ct : Value} {an : Option Addr} {us : List Value} (hl : us.length = ps.length) :
    bindArgs (PySem.W.fnOf x q p body scope .none kV doc pm an cdv ct) ⟨us, []⟩ = pure (ps.zip us) := by
  obtain ⟨p1, p2, p3, p4, p5, p6, p7⟩ := p
  simp only [parB, Bool.and_eq_true, List.isEmpty_iff, Option.isNone_iff_eq_none, decide_eq_true_eq] at h
  obtain ⟨⟨⟨⟨⟨⟨⟨⟨h1, h2⟩, h3⟩, h4⟩, h5⟩, h6⟩, h7⟩, h8⟩, h9⟩ := h
  subst h1 h2 h3 h4 h5 h6 h7
  rw [List.length_map] at h8 hl
  have nb : ∀ {a b : Str}, ¬ a = b → (b == a) = false := fun {a b} n => by simpa using fun z => n z.symm
  match p2, us, h8, hl, h9 with
  | [], [], _, _, _ => rfl
  | [⟨a, _, _⟩], [u], _, _, h9 =>
    simp [bindArgs, PySem.W.fnOf, List.lookup, seqItems?, notAStandIn]
  | [⟨a, _, _⟩, ⟨b, _, _⟩], [u, v], _, _, h9 =>
    simp at h9
    simp [bindArgs, PySem.W.fnOf, List.lookup, seqItems?, notAStandIn, nb h9]
  | [⟨a, _, _⟩, ⟨b, _, _⟩, ⟨c, _, _⟩], [u, v, w], _, _, h9 =>
    simp at h9
    simp [bindArgs, PySem.W.fnOf, List.lookup, seqItems?, notAStandIn, nb h9.1.1, nb h9.1.2, nb h9.2]
  | [⟨a, _, _⟩, ⟨b, _, _⟩, ⟨c, _, _⟩, ⟨d, _, _⟩], [u, v, w, x], _, _, h9 =>
    simp at h9
    simp [bindArgs, PySem.W.fnOf, List.lookup, seqItems?, notAStandIn, nb h9.1.1, nb h9.1.2.1, nb h9.1.2.2, nb h9.2.1.1, nb h9.2.1.2, nb h9.2.2]

/-! ### the table -/
structure Row where
  x : Str
  ar : Nat
  N : List Str
  mu : List Str
  rn : Bool
  lam : Bool
structure Lay where
  rows : List Row
  body : Str → Option (Arguments × List Stmt × Scope)
  cst : Str → Option Int
  exs : List Str
  sub : Str → Str → Bool
  told : Str → Option (Out AV → Out AV)
def Lay.row (L : Lay) (x : Str) : Option Row := L.rows.find? fun r => decide (r.x = x)
def Lay.cfg (L : Lay) (g : Bool) (f f' : Str → Option Df) (r : Row) (sc : Scope) : Cfg :=
  { N := r.N, sc := sc, sets := List.range r.N.length, fns := f, fnsL := f', cst := L.cst, exs := L.exs, sub := L.sub, told := if r.lam = true then L.told else fun _ => none, mu := r.mu, retN := r.rn, hot := false, grd := g, exv := none }
def Lay.df (L : Lay) (g : Bool) (f f' : Str → Option Df) (x : Str) : Option Df := match L.row x, L.body x with
  | some r, some (_, b, sc) => some (runD r.rn r.ar (blk (ev 30) (L.cfg g f f' r sc) b) r.N)
  | _, _ => none
def Lay.mean (L : Lay) : Bool → Nat → Str → Option Df
  | _, 0 => fun _ => none
  | g, n + 1 => L.df g (L.mean g n) (L.mean false n)

/-! ### facts of a def -/
structure RowF (K : PySem.W.Frag) (mg : Str → Option Value) (base : Heap) (L : Lay) (T : List (Addr × Str)) (r : Row) : Prop where
  ex : ∃ (f : Addr) (fd : FuncData) (params : Arguments) (b : List Stmt) (sc : Scope) (oc : Value) (od : Option Addr) (kV doc pm : Value) (an : Option Addr) (cdv ct : Value) (osl : Array (Option Value)),
    L.body r.x = some (params, b, sc) ∧ fd = PySem.W.fnOf r.x r.x params b sc .none kV doc pm an cdv ct ∧ K.lookup f = some ⟨oc, od, .func fd, osl⟩ ∧ PySem.W.codeIn K cdv r.x = true ∧ PySem.W.keepIn K (.ref f) = true ∧ mg r.x = some (.ref f) ∧
      FnScope r.N (r.N.take r.ar) sc ∧ r.ar ≤ r.N.length ∧ parB params (r.N.take r.ar) = true ∧ b ≠ [] ∧
      (r.lam = true → ∃ c P : Addr, LamX.TabB base mg c P ∧ cdv = .ref c ∧ (P, (r.x ++ (".<locals>." : Str)) ++ ("<lambda>" : Str)) ∈ T ∧ ∀ p ∈ T, p.1 = P → p.2 = (r.x ++ (".<locals>." : Str)) ++ ("<lambda>" : Str))
section
variable {P : Program} {w : World} {K : PySem.W.Frag} {mg : Str → Option Value} {base : Heap} {γ : Gc} {L : Lay} {T : List (Addr × Str)}
theorem sx_fn {X : Cx} (h : X.fn = fun _ => true) (x : Str) : X.fn x = true := by rw [h]
theorem runD_ar {rn : Bool} {n : Nat} {f : FS} {N : List Str} : (runD rn n f N).ar = n := by
  unfold runD
  split <;> rfl
theorem no_held {X : Cx} {E : XK} {c : Cfg} (h : c.exv = none) : Held X γ E c := ⟨fun _ _ _ z => (by rw [h] at z; cases z), fun _ _ _ z => (by rw [h] at z; cases z), fun z => (by rw [h] at z; cases z)⟩
theorem fn_row (gok : γ.Ok) (gK : γ.K = K) (gm : γ.mg = mg) (gG : γ.G = LamX.Tabs T) (exc : ∀ x ∈ L.exs, ExcF P w K mg base x) (cst : ∀ x i, L.cst x = some i → ∃ t, mg x = some (.int i t)) (free : ∀ x ∈ bltNames, mg x = none)
    (told : ∀ x f, L.told x = some f → Hears P w K mg base γ x f) {g : Bool} {k : Nat} {f f' : Str → Option Df} (hf : ∀ x d, f x = some d → CalG P w K mg base γ g k x d) (hf' : ∀ x d, f' x = some d → CalG P w K mg base γ false k x d)
    {x : Str} {d : Df} (rows : ∀ r ∈ L.rows, RowF K mg base L T r) (e : L.df g f f' x = some d) : ∃ (f : Addr) (fd : FuncData) (ps : List Str) (oc : Value) (od : Option Addr) (osl : Array (Option Value)), ps.length = d.ar ∧ FnG P w K mg base g (k + 3) f fd ps (spD γ d) ∧ mg x = some (.ref f) ∧ PySem.W.keepIn K (.ref f) = true ∧ (∀ us : List Value, us.length = ps.length → bindArgs fd ⟨us, []⟩ = pure (ps.zip us)) ∧ K.lookup f = some ⟨oc, od, .func fd, osl⟩ ∧ ∃ r ∈ L.rows, r.x = x ∧ ps = r.N.take r.ar := by
  unfold Lay.df at e
  split at e
  · rename_i r pr b sc hr hb
    cases e
    have hm : r ∈ L.rows := List.mem_of_find?_eq_some hr
    have hx : r.x = x := by
      have z := List.find?_some hr
      simpa using z
    subst hx
    obtain ⟨a, fd, pr', b', sc', oc, od, kV, doc, pm, an, cdv, ct, osl, e1, rfl, lk, hcd, kp, gl, S, hn, hp, nb, hl⟩ := (rows r hm).ex
    rw [hb] at e1
    cases e1
    have plen : (r.N.take r.ar).length = r.ar := by rw [List.length_take]; omega
    have len : ∀ vs H Q E, spD γ (runD r.rn r.ar (blk (ev 30) (L.cfg g f f' r sc) b) r.N) vs H Q E → vs.length = (r.N.take r.ar).length := fun vs H Q E h => by
      rw [plen, sp_len h, runD_ar]
    refine ⟨a, _, r.N.take r.ar, oc, od, osl, by rw [plen, runD_ar], fn_ofG (k := k + 2) lk hcd S len fun A outer s H vs Q E hg hr hsp => ?_, gl, kp, fun us hu => par_bind hp hu, lk, r, hm, rfl, rfl⟩
    let X : Cx := cxOf (L2N.CX P w) P w K mg base r.N r.x sc a cdv A outer s H E
    have tk : L2N.Takes X fun cls d _ H => E cls d H := L2N.takes_of (E := E) rfl rfl rfl rfl
    have hx : Hx X γ E (k + 2) (L.cfg g f f' r sc) := by
      refine ⟨gok, gK.symm, rfl, S.nd, rfl, S.kind, fun _ => rfl, ?_, fun _ => hr, hg, free, fun y i _ => .inl rfl, fun _ y d hd => (hf y d hd).mono (Nat.le_add_right k 2), fun _ y d hd => (hf' y d hd).mono (Nat.le_add_right k 2), cst, ?_⟩
      · have := hr.un
        show (A.deeper _).units + 64 < cLine
        omega
      · exact L2N.passes_call (X := X) (W := fun cls d _ H => E cls d H) tk fun _ _ _ _ h => h
    have hxt : Hxt X γ E (k + 2) (L.cfg g f f' r sc) := by
      refine ⟨hx, fun y h hy hh gly ar body scope lpos p pos fb hna hls hbo => ?_, no_held rfl⟩
      have hlam : r.lam = true := by
        cases q : r.lam with
        | true => rfl
        | false =>
          have hy : (if r.lam = true then L.told else fun _ => none) y = some h := hy
          rw [q] at hy
          cases hy
      have hy : L.told y = some h := by
        have hy : (if r.lam = true then L.told else fun _ => none) y = some h := hy
        rw [if_pos hlam] at hy
        exact hy
      obtain ⟨c, Pt, t1, t2, t3, t4⟩ := hl hlam
      exact told_ok (X := X) (k := k) hx rfl hf' gG (told y h hy) ⟨c, Pt, t1, t2, t3, t4⟩ gly hna hls hbo
    have hxs : HxS X γ E (k + 2) (L.cfg g f f' r sc) := by
      refine ⟨hxt, passes_of rfl, fun y hy gly _ ar fe p q pos hs ha => ?_⟩
      exact rai_of gok gK.symm gm.symm rfl (hr.mono (Nat.le_add_left 2 k)) tk (hx.gl gly) (gl_ok gly).2.1 (exc y hy) hs ha
    obtain ⟨t, p1, r1⟩ := ss_blk (sndS_ev 30) hxs b
    exact ⟨t, p1, sp_run hsp r1⟩
  · cases e
theorem cal_row (gok : γ.Ok) (gK : γ.K = K) (gm : γ.mg = mg) (gG : γ.G = LamX.Tabs T) (exc : ∀ x ∈ L.exs, ExcF P w K mg base x) (cst : ∀ x i, L.cst x = some i → ∃ t, mg x = some (.int i t)) (free : ∀ x ∈ bltNames, mg x = none)
    (told : ∀ x f, L.told x = some f → Hears P w K mg base γ x f) {g : Bool} {k : Nat} {f f' : Str → Option Df} (hf : ∀ x d, f x = some d → CalG P w K mg base γ g k x d) (hf' : ∀ x d, f' x = some d → CalG P w K mg base γ false k x d)
    {x : Str} {d : Df} (rows : ∀ r ∈ L.rows, RowF K mg base L T r) (e : L.df g f f' x = some d) : CalG P w K mg base γ g (k + 3) x d := by
  obtain ⟨a, fd, ps, oc, od, osl, h1, h2, h3, h4, h5, h6, h7⟩ := fn_row gok gK gm gG exc cst free told hf hf' rows e
  exact ⟨a, fd, ps, h1, h2, h3, h4, .all h5⟩
theorem cal_all (gok : γ.Ok) (gK : γ.K = K) (gm : γ.mg = mg) (gG : γ.G = LamX.Tabs T) (exc : ∀ x ∈ L.exs, ExcF P w K mg base x) (cst : ∀ x i, L.cst x = some i → ∃ t, mg x = some (.int i t)) (free : ∀ x ∈ bltNames, mg x = none)
    (told : ∀ x f, L.told x = some f → Hears P w K mg base γ x f) (rows : ∀ r ∈ L.rows, RowF K mg base L T r) : ∀ (n : Nat) (g : Bool) (x : Str) (d : Df), L.mean g n x = some d → CalG P w K mg base γ g (3 * n) x d
  | 0, g, x, d, h => by
    unfold Lay.mean at h
    cases h
  | n + 1, g, x, d, h => by
    unfold Lay.mean at h
    exact cal_row gok gK gm gG exc cst free told (fun x d => cal_all gok gK gm gG exc cst free told rows n g x d) (fun x d => cal_all gok gK gm gG exc cst free told rows n false x d) rows h
end
end NL
end
section
set_option Elab.async false
set_option linter.all false
set_option maxRecDepth 100000
set_option maxHeartbeats 400000
/-! From the head's facts to the defs' facts. -/
namespace NL
open PySem PySem.Spec PyProof.Rows L2

/-! ### static looks -/
def scB (N ps : List Str) (sc : Scope) : Bool := decide (sc.kind = .function) && !sc.isCoroutine && !sc.isGenerator && decide N.Nodup && decide (N.take ps.length = ps) &&
  (ps.all fun x => decide (sc.names.lookup x = some .local) || decide (sc.names.lookup x = some .cell)) && sc.names.all fun y => !decide (y.2 = .free)
theorem sc_ok {N ps : List Str} {sc : Scope} (h : scB N ps sc = true) : FnScope N ps sc := by
  simp only [scB, Bool.and_eq_true, Bool.not_eq_true', decide_eq_true_eq, decide_eq_false_iff_not, List.all_eq_true, Bool.or_eq_true] at h
  obtain ⟨⟨⟨⟨⟨⟨h1, h2⟩, h3⟩, h4⟩, h5⟩, h6⟩, h7⟩ := h
  exact ⟨h1, h2, h3, h4, h5, h6, h7⟩
def rowB (L : Lay) (r : Row) : Bool := match L.body r.x with
  | some (p, b, sc) => parB p (r.N.take r.ar) && scB r.N (r.N.take r.ar) sc && decide (r.ar ≤ r.N.length) && !b.isEmpty
  | none => false
def dOf (L : Lay) (r : Row) : He.DefD := match L.body r.x with
  | some (p, b, sc) => ⟨(r.x, none), r.x, r.x, p, b, sc, [], []⟩
  | none => ⟨(r.x, none), r.x, r.x, ⟨[], [], none, [], [], none, []⟩, [], ⟨.function, [], false, false, []⟩, [], []⟩
def isInit : List Stmt → Bool
  | [.Expr (.Call (.Attribute (.Name a p1) b p2) [.Name c p3, .Name d p4] [] p5) p6, .Assign [.Attribute (.Name e p7) f p8] (.Name g p9) p10] =>
    decide (a = "ValueError") && decide (b = "__init__") && decide (c = "self") && decide (d = "what") && decide (e = "self") && decide (f = "what") && decide (g = "what") && (p2.endLine == p5.line)
  | _ => false
theorem init_shape {b : List Stmt} (h : isInit b = true) : ∃ p1 p2 p3 p4 p5 p6 p7 p8 p9 p10, b = initBody p1 p2 p3 p4 p5 p6 p7 p8 p9 p10 ∧ (p2.endLine == p5.line) = true := by
  unfold isInit at h
  split at h
  · simp only [Bool.and_eq_true, decide_eq_true_eq] at h
    obtain ⟨⟨⟨⟨⟨⟨⟨h1, h2⟩, h3⟩, h4⟩, h5⟩, h6⟩, h7⟩, h8⟩ := h
    subst h1 h2 h3 h4 h5 h6 h7
    exact ⟨_, _, _, _, _, _, _, _, _, _, rfl, h8⟩
  · cases h
def iniB (d : He.DefD) : Bool := isInit d.body && parB d.params ["self", "what"] && scB ["self", "what"] ["self", "what"] d.scope && decide (d.scope.names.lookup ("self" : Str) = some .local) && decide (d.scope.names.lookup ("what" : Str) = some .local) &&
  decide (d.scope.names.lookup ("ValueError" : Str) = some .globalImplicit) && d.dfl.isEmpty && d.kwd.isEmpty
/-- try: return (word, a()); except e as v: suite -/
def heardOf : List Stmt → Option (Str × Str × Str × Str × List Stmt)
  | [.Try [.Return (some (.Tuple [.Constant (.str word) j p1, .Call (.Name a p2) [] [] p3] k' p4)) p5] [.ExceptHandler (some (.Name e p6)) (some v) (b0 :: suite) p7] [] [] p8] => some (word, a, e, v, b0 :: suite)
  | _ => none
theorem heard_shape {b : List Stmt} {word a e v : Str} {su : List Stmt} (h : heardOf b = some (word, a, e, v, su)) : ∃ j k' p1 p2 p3 p4 p5 p6 p7 p8 b0 suite, su = b0 :: suite ∧
    b = [.Try [.Return (some (.Tuple [.Constant (.str word) j p1, .Call (.Name a p2) [] [] p3] k' p4)) p5] [.ExceptHandler (some (.Name e p6)) (some v) (b0 :: suite) p7] [] [] p8] := by
  unfold heardOf at h
  split at h
  · cases h
    exact ⟨_, _, _, _, _, _, _, _, _, _, _, _, rfl, rfl⟩
  · cases h

/-! ### looks at the head -/
def oexB (K : PySem.W.Frag) (C : Addr) : Bool := match K.lookup C with
  | some ⟨.type t, _, .cls cd, sl⟩ => decide (t = "type") && (match cd.mro, sl.toList with
    | .ref D :: bm, [_, _, _, _, some (.builtin n), _] => decide (D = C) && decide (n = "ValueError.__new__") && !cd.hasDel && cd.hasDict && PySem.HandSPX.refsVE bm
    | _, _ => false)
  | _ => false
theorem oex_cls {K : PySem.W.Frag} {C : Addr} (h : oexB K C = true) : ∃ nm q N bs bm sn sub ab col dd k0 k1 k2 k3 k5, K.lookup C = some (excClassObj nm q C N bs bm true sn sub ab col dd k0 k1 k2 k3 k5 "ValueError.__new__") ∧ PySem.HandSPX.refsVE bm = true := by
  unfold oexB at h
  split at h
  · rename_i t dd cd sl e
    have hq := He.ba h
    have h1 := of_decide_eq_true hq.1
    subst h1
    have hp := hq.2
    clear hq h
    split at hp
    · rename_i D bm k0 k1 k2 k3 n k5 e1 e2
      simp only [Bool.and_eq_true, decide_eq_true_eq, Bool.not_eq_true'] at hp
      have h2 := hp.1.1.1.1
      have h3 := hp.1.1.1.2
      have h4 := hp.1.1.2
      have h5 := hp.1.2
      have h6 := hp.2
      subst h2
      subst h3
      obtain ⟨c1, c2, c3, c4, c5, c6, c7, c8, c9, c10, c11⟩ := cd
      obtain ⟨l⟩ := sl
      simp only at e1 e2 h4 h5
      subst e1 e2 h4 h5
      exact ⟨_, _, _, _, _, _, _, _, _, _, _, _, _, _, _, e, h6⟩
    · cases hp
  · cases h
section
open PySem.W He
def clsB (exs : List Str) (sub : Str → Str → Bool) (bs : Str) (K : Frag) (m : Str) : Bool :=
  oexB K (ga K m) && eqO (findIn K (.ref (ga K m)) "__setattr__") (some (some (.builtin "object.__setattr__"))) && decide (subIn K (.ref (ga K m)) (.type "BaseException") = some true) && decide (typeIn K (.ref (ga K m)) = some (.type "type")) &&
  keepIn K (.ref (ga K m)) && eqO (findIn K (.ref (ga K m)) "__init__") (some (some (.ref (ma K (ga K bs) "__init__")))) && eqO (findIn K (.ref (ga K m)) "what") (some none) &&
  eqO (findIn K (.ref (ga K m)) "__getattribute__") (some (some (.builtin "BaseException.__getattribute__"))) && eqO (findIn K (.ref (ga K m)) "__getattr__") (some none) && hasDictIn K (ga K m) && eqO (findIn K (.ref (ga K m)) "__class__") (some (some (.builtin "object.__class__"))) &&
  decide (mroIn K (ga K m) (.type "object") = some true) && decide (exmOne K (.ref (ga K m)) (.ref (ga K bs)) = some true) && exs.all fun t => decide (kitOne K (.ref (ga K m)) (.ref (ga K t)) = some (sub m t))
def oneB (bs : Str) (K : Frag) : Bool := decide (typeIn K (.ref (ma K (ga K bs) "__init__")) = some (.type "function")) && eqO (specialIn K (.builtin "object.__class__") "__get__") (some (some (.builtin "getset_descriptor.__get__"))) &&
  decide (takesIn K (.builtin "object.__class__") = some true) && (match findCls K (.type "ValueError") (.type "type") "__init__" with
    | some (.val (.builtin n)) => decide (n = "ValueError.__init__")
    | _ => false)
def exB (exs : List Str) (sub : Str → Str → Bool) (bs : Str) (tf : List Defn) (K : Frag) : Bool := (exs.all fun m => clsB exs sub bs K m) && oneB bs K && decide ((tf.map (cT K)).map (·.2)).Nodup
structure ClsOk (K : Frag) (exs : List Str) (sub : Str → Str → Bool) (bs : Str) (m : Str) : Prop where
  o : OexC K (ga K m)
  ini : findIn K (.ref (ga K m)) "__init__" = some (some (.ref (ma K (ga K bs) "__init__")))
  wh : findIn K (.ref (ga K m)) "what" = some none
  x : ExcC K (ga K m)
  up : exmOne K (.ref (ga K m)) (.ref (ga K bs)) = some true
  is_ : ∀ t ∈ exs, kitOne K (.ref (ga K m)) (.ref (ga K t)) = some (sub m t)
theorem cls_look {exs : List Str} {sub : Str → Str → Bool} {bs m : Str} {K : Frag} (h : clsB exs sub bs K m = true) (g : oneB bs K = true) : ClsOk K exs sub bs m := by
  simp only [clsB, Bool.and_eq_true, decide_eq_true_eq, List.all_eq_true] at h
  simp only [oneB, Bool.and_eq_true, decide_eq_true_eq] at g
  obtain ⟨⟨⟨⟨⟨⟨⟨⟨⟨⟨⟨⟨⟨h1, h2⟩, h3⟩, h4⟩, h5⟩, h6⟩, h7⟩, h8⟩, h9⟩, h10⟩, h11⟩, h12⟩, h13⟩, h14⟩ := h
  obtain ⟨⟨⟨g1, g2⟩, g3⟩, g4⟩ := g
  exact ⟨⟨oex_cls h1, eqO_ok h2, h3, h4, h5⟩, eqO_ok h6, eqO_ok h7, ⟨eqO_ok h8, eqO_ok h9, h3, h10, eqO_ok h11, eqO_ok g2, g3, h12⟩, h13, h14⟩
theorem one_look {bs : Str} {K : Frag} (g : oneB bs K = true) : typeIn K (.ref (ma K (ga K bs) "__init__")) = some (.type "function") ∧ findCls K (.type "ValueError") (.type "type") "__init__" = some (.val (.builtin "ValueError.__init__")) := by
  simp only [oneB, Bool.and_eq_true, decide_eq_true_eq] at g
  obtain ⟨⟨⟨g1, g2⟩, g3⟩, g4⟩ := g
  refine ⟨g1, ?_⟩
  split at g4
  · rename_i n e
    rw [e, of_decide_eq_true g4]
  · cases g4
end

/-! ### a program's layout -/
structure Prg where
  L : Lay
  cs : List (Str × Int)
  bs : Str
  hx : Str
  hN : List Str
  hi : Nat
  dH : He.DefD
  dI : He.DefD
def Prg.fa (p : Prg) : List He.Fa := bltNames.map .free ++ p.cs.map (fun q => .int q.1 q.2) ++ p.L.rows.map (fun r => .glo r.x) ++ p.L.exs.map .glo ++ [.glo p.bs, .glo p.hx]
def Prg.fn (p : Prg) : List He.DefD := p.L.rows.map (dOf p.L) ++ [p.dH, p.dI]
def Prg.tf (p : Prg) : List He.Defn := (p.L.rows.filter (·.lam)).map fun r => (r.x, none)
def Prg.ex (p : Prg) : PySem.W.Frag → Bool := exB p.L.exs p.L.sub p.bs p.tf
def Prg.T (p : Prg) (K : PySem.W.Frag) : List (Addr × Str) := p.tf.map fun q => ((He.cT K q).2, (q.1 ++ (".<locals>." : Str)) ++ ("<lambda>" : Str))
def Prg.hot (p : Prg) (sc : Scope) (word v : Str) (m : Str) (y : PyData) : Cfg :=
  { N := p.hN, sc := sc, sets := List.range p.hN.length, fns := fun _ => none, fnsL := fun _ => none, cst := fun _ => none, exs := p.L.exs, sub := p.L.sub, told := fun _ => none, mu := p.hN, retN := false, hot := true, grd := false, exv := some (v, m, y) }
def pairH (n : Str) (y : PyData) : PyData := .tuple [.str n, y]
/-- what is looked at in the text alone -/
def Prg.okB (p : Prg) : Bool := (p.L.rows.all (rowB p.L)) && iniB p.dI && decide (p.dI.at_ = (p.bs, some ("__init__" : Str))) && decide (p.dH.at_ = (p.hx, none)) && decide (p.dH.name = p.hx) && decide (p.dH.qual = p.hx) && p.dH.dfl.isEmpty && p.dH.kwd.isEmpty && (match heardOf p.dH.body with
  | some (word, a, e, v, su) => parB p.dH.params [a] && scB p.hN [a] p.dH.scope && decide (p.hN[0]? = some a) && decide (p.hN[p.hi]? = some v) && !decide (p.hi = 0) && decide (p.dH.scope.names.lookup v = some .local) && decide (p.dH.scope.names.lookup e = some .globalImplicit) && decide (e = p.bs) && !decide (e = "__debug__") && !decide (a = "__debug__") && !decide (a = "__classdict__")
  | none => false)
section
variable {P : Program} {w : World} {K : PySem.W.Frag} {mg : Str → Option Value} {base h : Heap} {γ : Gc} {p : Prg}
theorem tabs_one {p : Prg} (nd : ((p.tf.map (He.cT K)).map (·.2)).Nodup) {q : He.Defn} (hq : q ∈ p.tf) : ∀ z ∈ p.T K, z.1 = (He.cT K q).2 → z.2 = (q.1 ++ (".<locals>." : Str)) ++ ("<lambda>" : Str) := by
  intro z hz e
  obtain ⟨q2, h2, rfl⟩ := List.mem_map.mp hz
  have e : (He.cT K q2).2 = (He.cT K q).2 := e
  have key : ∀ l : List He.Defn, ((l.map (He.cT K)).map (·.2)).Nodup → q ∈ l → q2 ∈ l → q2 = q := by
    intro l
    induction l with
    | nil => intro _ h; cases h
    | cons a l ih =>
      intro nd m1 m2
      rw [List.map_cons, List.map_cons, List.nodup_cons] at nd
      have no : ∀ b ∈ l, (He.cT K b).2 ≠ (He.cT K a).2 := fun b hb z => nd.1 (by rw [← z]; exact List.mem_map.mpr ⟨_, List.mem_map.mpr ⟨b, hb, rfl⟩, rfl⟩)
      rcases List.mem_cons.mp m1 with m1 | m1 <;> rcases List.mem_cons.mp m2 with m2 | m2
      · rw [m1, m2]
      · rw [m1] at e; exact absurd e (no _ m2)
      · rw [m2] at e; exact absurd e.symm (no _ m1)
      · exact ih nd.2 m1 m2
  rw [key _ nd hq h2]
theorem rows_of (c : He.SaysX p.fa p.fn [] p.tf p.ex w h K) (kin : K.In h) (G : h.Ns mainGlobals mg) (st : p.okB = true) (tb : ∀ q ∈ p.tf, LamX.TabB base mg (He.cT K q).1 (He.cT K q).2) : ∀ r ∈ p.L.rows, RowF K mg base p.L (p.T K) r := by
  intro r hr
  simp only [Prg.okB, Bool.and_eq_true, List.all_eq_true] at st
  have hs := st.1.1.1.1.1.1.1.1 r hr
  unfold rowB at hs
  split at hs
  · rename_i pr b sc hb
    simp only [Bool.and_eq_true, decide_eq_true_eq, Bool.not_eq_true', List.isEmpty_eq_false_iff] at hs
    obtain ⟨⟨⟨s1, s2⟩, s3⟩, s4⟩ := hs
    have hd : dOf p.L r ∈ p.fn := List.mem_append_left _ (List.mem_map.mpr ⟨r, hr, rfl⟩)
    obtain ⟨fd, F⟩ := c.t.d.defs hd
    have e : dOf p.L r = ⟨(r.x, none), r.x, r.x, pr, b, sc, [], []⟩ := by
      unfold dOf
      rw [hb]
    rw [e] at F
    have F : FunD K r.x r.x pr b sc [] [] (He.ga K r.x) fd := F
    obtain ⟨oc, od, dV, kV, doc, pm, an, cdv, ct, osl, hfd, lk, hcd, hD, hK⟩ := F.ex
    have dn : dV = .none := by
      rcases hD with ⟨_, z⟩ | ⟨z, _⟩
      · exact z
      · exact absurd rfl z
    subst dn
    refine ⟨He.ga K r.x, fd, pr, b, sc, oc, od, kV, doc, pm, an, cdv, ct, osl, hb, hfd, lk, hcd, F.kp, ?_, sc_ok s2, s3, s1, s4, fun hl => ?_⟩
    · refine He.glo_ok kin G (c.t.d.facts ?_)
      unfold Prg.fa
      exact List.mem_append_left _ (List.mem_append_left _ (List.mem_append_right _ (List.mem_map.mpr ⟨r, hr, rfl⟩)))
    · have hq : ((r.x, none) : He.Defn) ∈ p.tf := List.mem_map.mpr ⟨r, List.mem_filter.mpr ⟨hr, hl⟩, rfl⟩
      obtain ⟨cc, hcc⟩ := He.codeIn_ref hcd
      have hco : He.codeOf K (r.x, none) = cc := He.codeOf_eq (p := (r.x, none)) lk (by rw [hfd]; exact hcc)
      refine ⟨(He.cT K (r.x, none)).1, (He.cT K (r.x, none)).2, tb _ hq, by rw [hcc]; exact congrArg Value.ref hco.symm, List.mem_map.mpr ⟨_, hq, rfl⟩, ?_⟩
      have hm := c.more
      simp only [Prg.ex, exB, Bool.and_eq_true, decide_eq_true_eq] at hm
      exact tabs_one hm.2 hq
  · cases hs
theorem cls_of (c : He.SaysX p.fa p.fn [] p.tf p.ex w h K) : ∀ m ∈ p.L.exs, ClsOk K p.L.exs p.L.sub p.bs m := fun m hm => by
  have q := c.more
  simp only [Prg.ex, exB, Bool.and_eq_true, decide_eq_true_eq, List.all_eq_true] at q
  exact cls_look (q.1.1 m hm) q.1.2
theorem excF_of (c : He.SaysX p.fa p.fn [] p.tf p.ex w h K) (kin : K.In h) (G : h.Ns mainGlobals mg) (st : p.okB = true) : ∀ m ∈ p.L.exs, ExcF P w K mg base m := fun m hm => by
  obtain ⟨o, i, wh, _, _, _⟩ := cls_of c m hm
  have q := c.more
  simp only [Prg.ex, exB, Bool.and_eq_true, decide_eq_true_eq, List.all_eq_true] at q
  obtain ⟨g1, g2⟩ := one_look q.1.2
  have hd : p.dI ∈ p.fn := List.mem_append_right _ (by simp)
  obtain ⟨fd, F⟩ := c.t.d.defs hd
  simp only [Prg.okB, iniB, Bool.and_eq_true, decide_eq_true_eq, List.isEmpty_iff] at st
  obtain ⟨⟨⟨⟨⟨⟨⟨⟨_, ⟨⟨⟨⟨⟨⟨⟨i1, i2⟩, i3⟩, i4⟩, i5⟩, i6⟩, i7⟩, i8⟩⟩, i9⟩, _⟩, _⟩, _⟩, _⟩, _⟩, _⟩ := st
  obtain ⟨p1, p2, p3, p4, p5, p6, p7, p8, p9, p10, hb, hl⟩ := init_shape i1
  have eD : p.dI.dvs K = [] := by unfold He.DefD.dvs; rw [i7]; rfl
  have eK : p.dI.kws K = [] := by unfold He.DefD.kws; rw [i8]; rfl
  rw [hb, i9, eD, eK] at F
  have F : FunD K p.dI.name p.dI.qual p.dI.params _ p.dI.scope [] [] (He.ma K (He.ga K p.bs) "__init__") fd := F
  have fm : He.Fa.glo m ∈ p.fa := by
    unfold Prg.fa
    exact List.mem_append_left _ (List.mem_append_right _ (List.mem_map.mpr ⟨m, hm, rfl⟩))
  have gm := He.glo_ok kin G (c.t.d.facts fm)
  have fv : He.Fa.free "ValueError" ∈ p.fa := by
    unfold Prg.fa
    exact List.mem_append_left _ (List.mem_append_left _ (List.mem_append_left _ (List.mem_append_left _ (List.mem_map.mpr ⟨_, by simp [bltNames], rfl⟩))))
  have hv := He.free_ok kin G (c.t.d.facts fv)
  refine ⟨He.ga K m, _, fd, ["self", "what"], gm, o, i, g1, wh, init_ok F (sc_ok i3) i4 i5 i6 hv g2 hl, ?_⟩
  obtain ⟨oc, od, dV, kV, doc, pm, an, cdv, ct, osl, hfd, lk, hcd, hD, hK⟩ := F.ex
  have dn : dV = .none := by
    rcases hD with ⟨_, z⟩ | ⟨z, _⟩
    · exact z
    · exact absurd rfl z
  subst dn hfd
  exact .all fun us hu => par_bind (ps := ["self", "what"]) i2 hu
theorem hears_of (gok : γ.Ok) (gK : γ.K = K) (gm : γ.mg = mg) (c : He.SaysX p.fa p.fn [] p.tf p.ex w h K) (kin : K.In h) (G : h.Ns mainGlobals mg) (st : p.okB = true) {word a e v : Str} {su : List Stmt} {n : Nat} (hh : heardOf p.dH.body = some (word, a, e, v, su))
    (res : ∀ m ∈ p.L.exs, ∀ y : PyData, ∃ st', blk (ev n) (p.hot p.dH.scope word v m y) su ((List.replicate p.hN.length none).set p.hi (some (.e 0))) [] = .ok (.rt (.d (pairH m y))) st') : Hears P w K mg base γ p.hx (heardF word p.L.exs pairH) := by
  have hd : p.dH ∈ p.fn := List.mem_append_right _ (by simp)
  obtain ⟨fd, F⟩ := c.t.d.defs hd
  have free : ∀ z ∈ bltNames, mg z = none := fun z hz => He.free_ok kin G (c.t.d.facts (by
    unfold Prg.fa
    exact List.mem_append_left _ (List.mem_append_left _ (List.mem_append_left _ (List.mem_append_left _ (List.mem_map.mpr ⟨_, hz, rfl⟩))))))
  have gx : ∀ m ∈ p.L.exs, mg m = some (.ref (He.ga K m)) := fun m hm => He.glo_ok kin G (c.t.d.facts (by
    unfold Prg.fa
    exact List.mem_append_left _ (List.mem_append_right _ (List.mem_map.mpr ⟨m, hm, rfl⟩))))
  have gb : mg p.bs = some (.ref (He.ga K p.bs)) := He.glo_ok kin G (c.t.d.facts (by
    unfold Prg.fa
    exact List.mem_append_right _ (by simp)))
  have gh : mg p.hx = some (.ref (He.ga K p.hx)) := He.glo_ok kin G (c.t.d.facts (by
    unfold Prg.fa
    exact List.mem_append_right _ (by simp)))
  simp only [Prg.okB, Bool.and_eq_true, decide_eq_true_eq, List.isEmpty_iff] at st
  obtain ⟨⟨⟨⟨⟨⟨⟨⟨_, _⟩, _⟩, h1⟩, h2⟩, h3⟩, h4⟩, h5⟩, h6⟩ := st
  rw [hh] at h6
  simp only [Bool.and_eq_true, decide_eq_true_eq, Bool.not_eq_true', decide_eq_false_iff_not] at h6
  obtain ⟨⟨⟨⟨⟨⟨⟨⟨⟨⟨q1, q2⟩, q3⟩, q4⟩, q5⟩, q6⟩, q7⟩, q8⟩, q9⟩, q10⟩, q11⟩ := h6
  obtain ⟨j, k', p1, p2, p3, p4, p5, p6, p7, p8, b0, suite, rfl, hb⟩ := heard_shape hh
  have eD : p.dH.dvs K = [] := by unfold He.DefD.dvs; rw [h4]; rfl
  have eK : p.dH.kws K = [] := by unfold He.DefD.kws; rw [h5]; rfl
  rw [h1, h2, h3, eD, eK, hb] at F
  have F : FunD K p.hx p.hx p.dH.params _ p.dH.scope [] [] (He.ga K p.hx) fd := F
  obtain ⟨oc, od, dV, kV, doc, pm, an, cdv, ct, osl, hfd, lk, hcd, hD, hK⟩ := F.ex
  have dn : dV = .none := by
    rcases hD with ⟨_, z⟩ | ⟨z, _⟩
    · exact z
    · exact absurd rfl z
  subst dn hfd
  have S := sc_ok q2
  refine ⟨a, He.ga K p.hx, p.dH.params, _, p.dH.scope, .none, kV, doc, pm, cdv, ct, oc, an, od, osl, p.hN, gh, F.kp, lk, hcd, .all fun us hu => par_bind (ps := [a]) q1 hu, S, q3, ?_, q10, q11, heardF_exc, fun X q e1 e2 e3 e4 e5 => ?_⟩
  · rcases S.par a (by simp) with z | z
    · exact .inl z
    · exact .inr (.inl z)
  · refine gives_ev (exs := p.L.exs) (sub := p.L.sub) (CS := He.ga K p.bs) (c := fun m y => p.hot p.dH.scope word v m y) gok (e3.trans gK.symm) (e4.trans gm.symm) S.nd q3 q4 q5 q6 q7 (by rw [e4, q8]; exact gb) q9 S.kind (by rw [e4]; exact free) (fun m y => ⟨rfl, rfl, rfl, rfl, fun _ => rfl, rfl, rfl, rfl⟩) (fun m hm => ?_) res
    obtain ⟨o, i, wh, x, up, is_⟩ := cls_of c m hm
    refine ⟨He.ga K m, by rw [e4]; exact gx m hm, by rw [e3]; exact x, by rw [e3]; exact wh, by rw [e3]; exact up, fun t ht => ⟨He.ga K t, by rw [e4]; exact gx t ht, by rw [e3]; exact is_ t ht⟩⟩
end
end NL
end
section
set_option Elab.async false
set_option linter.all false
set_option maxRecDepth 100000
set_option maxHeartbeats 400000
/-! A law, from what its def computes. -/
namespace NL
open PySem PySem.Spec PyProof.Rows L2

theorem tabs_gc {K : PySem.W.Frag} {mg : Str → Option Value} {T : List (Addr × Str)} {xa : Addr} : (Gc.mk K mg (LamX.Tabs T) xa).Ok := by
  have key : ∀ (H : Hp) (p : Addr) (o : HO), LamX.Tabs T H → (∀ u, H p = some u → Wr u) → LamX.Tabs T (upd H p o) := fun H p o t n z hz => by
    obtain ⟨ps, h1, h2, h3⟩ := t z hz
    have ne : ∀ (b : Addr) (u : HO), H b = some u → ¬ Wr u → upd H p o b = some u := fun b u e nw => by
      have hb : b ≠ p := fun q => by
        subst q
        exact nw (n u e)
      rw [upd_ne hb]
      exact e
    refine ⟨ps, ne _ _ h1 (fun z => z), h2, fun pos cv hc => ?_⟩
    obtain ⟨c, e1, e2⟩ := h3 pos cv hc
    exact ⟨c, e1, ne _ _ e2 fun z => z⟩
  exact ⟨fun H p o t n => key H p o t fun u e => (by rw [n] at e; cases e), fun H p o o' t e hw => key H p o t fun u e' => (by rw [e] at e'; cases e'; exact hw)⟩
theorem prg_law {P : Program} {w : World} {p : Prg} {F : DF} {fuel n : Nat} {mg : Str → Option Value} {fa : Addr} {h : Heap} {word a e v x : Str} {su : List Stmt} {m : Nat} (st : p.okB = true) (hcs : ∀ x i, p.L.cst x = some i → (x, i) ∈ p.cs)
    (hto : ∀ x f, p.L.told x = some f → x = p.hx ∧ f = heardF word p.L.exs pairH) (hh : heardOf p.dH.body = some (word, a, e, v, su))
    (res : ∀ m ∈ p.L.exs, ∀ y : PyData, ∃ st', blk (ev fuel) (p.hot p.dH.scope word v m y) su ((List.replicate p.hN.length none).set p.hi (some (.e 0))) [] = .ok (.rt (.d (pairH m y))) st')
    {f f' : Str → Option Df} (hf : f = p.L.mean true m) (hf' : f' = p.L.mean false m) (hl : p.L.df true f f' "law" = some (.e 1 F)) (hx : ∀ r ∈ p.L.rows, r.x = "law" → r.N.take r.ar = [x])
    (good : ∀ ns : List Int, ns.length ≤ n → (∀ z ∈ ns, Builtin.Int.intBits z ≤ 1048576) → ∃ s, F [.z ns] [] = .ok (.d (.bool true)) s)
    (c : ∃ K : PySem.W.Frag, K.In h ∧ He.SaysX p.fa p.fn [] p.tf p.ex w h K) (G : h.Ns mainGlobals mg) (hg : mg "law" = some (.ref fa)) :
    ∃ (K : PySem.W.Frag) (fd : FuncData) (cs : List (Addr × Addr)) (sp : Sp), K.In h ∧ (∀ p ∈ cs, h.get? p.2 = some tabO ∧ K.lookup p.2 = none ∧ PySem.W.CodeHd h p.1 p.2) ∧ (∀ (z : Shared) (u : Value), BindsTo z fd ⟨[u], []⟩ [(x, u)]) ∧
      (∀ (H : Hp) (a : Addr) (ns : List Int), ns.length ≤ n → (∀ z ∈ ns, Builtin.Int.intBits z ≤ 1048576) → (∀ p ∈ cs, H p.2 = some (.tbl #[])) → SqL K H a (ns.map V.int) → sp [.ref a] H (fun v _ => v = .bl true) fun _ _ _ => False) ∧
      ∀ base : Heap, K.In base → base.Ns mainGlobals mg → (∀ p ∈ cs, LamX.TabB base mg p.1 p.2) → FnG P w K mg base true (3 * (m + 1)) fa fd [x] sp := by
  obtain ⟨K, kin, c⟩ := c
  let γ : Gc := ⟨K, mg, LamX.Tabs (p.T K), 0⟩
  have gok : γ.Ok := tabs_gc
  have all : ∀ base : Heap, (∀ q ∈ p.tf, LamX.TabB base mg (He.cT K q).1 (He.cT K q).2) → ∃ (g : Addr) (fd : FuncData) (oc : Value) (od : Option Addr) (osl : Array (Option Value)), FnG P w K mg base true (3 * (m + 1)) g fd [x] (spF γ 1 F) ∧ mg "law" = some (.ref g) ∧
      (∀ us : List Value, us.length = 1 → bindArgs fd ⟨us, []⟩ = pure ([x].zip us)) ∧ K.lookup g = some ⟨oc, od, .func fd, osl⟩ := fun base tb => by
    have rows := rows_of c kin G st tb
    have exc := excF_of (P := P) (w := w) (base := base) c kin G st
    have cst : ∀ y i, p.L.cst y = some i → ∃ t, mg y = some (.int i t) := fun y i hy => He.int_ok kin G (c.t.d.facts (by
      unfold Prg.fa
      exact List.mem_append_left _ (List.mem_append_left _ (List.mem_append_left _ (List.mem_append_right _ (List.mem_map.mpr ⟨(y, i), hcs y i hy, rfl⟩))))))
    have free : ∀ z ∈ bltNames, mg z = none := fun z hz => He.free_ok kin G (c.t.d.facts (by
      unfold Prg.fa
      exact List.mem_append_left _ (List.mem_append_left _ (List.mem_append_left _ (List.mem_append_left _ (List.mem_map.mpr ⟨_, hz, rfl⟩))))))
    have told : ∀ y g, p.L.told y = some g → Hears P w K mg base γ y g := fun y g hy => by
      obtain ⟨rfl, rfl⟩ := hto y g hy
      exact hears_of gok rfl rfl c kin G st hh res
    subst hf hf'
    obtain ⟨g, fd, ps, oc, od, osl, h1, h2, h3, h4, h5, h6, r, hr, hrx, hps⟩ := fn_row (T := p.T K) gok rfl rfl rfl exc cst free told (cal_all gok rfl rfl rfl exc cst free told rows m true) (cal_all gok rfl rfl rfl exc cst free told rows m false) rows hl
    have hp := hx r hr hrx
    rw [← hps] at hp
    subst hp
    exact ⟨g, fd, oc, od, osl, h2, h3, h5, h6⟩
  -- the head's own heap
  refine ⟨K, ?_⟩
  have tabs : ∀ q ∈ p.tf, h.get? (He.cT K q).2 = some tabO ∧ K.lookup (He.cT K q).2 = none ∧ PySem.W.CodeHd h (He.cT K q).1 (He.cT K q).2 := fun q hq => ⟨c.empty q hq, c.out q hq, PySem.W.codeHd_of_K kin (c.hd q hq)⟩
  have hlaw : ∃ r ∈ p.L.rows, r.x = "law" := by
    unfold Lay.df at hl
    split at hl
    · rename_i r _ b sc hr hb
      exact ⟨r, List.mem_of_find?_eq_some hr, by simpa using List.find?_some hr⟩
    · cases hl
  obtain ⟨r, hr, hrx⟩ := hlaw
  have rf : ∃ (fd : FuncData) (oc : Value) (od : Option Addr) (osl : Array (Option Value)), K.lookup fa = some ⟨oc, od, .func fd, osl⟩ ∧ ∀ us : List Value, us.length = 1 → bindArgs fd ⟨us, []⟩ = pure ([x].zip us) := by
    simp only [Prg.okB, Bool.and_eq_true, List.all_eq_true] at st
    have hs := st.1.1.1.1.1.1.1.1 r hr
    unfold rowB at hs
    split at hs
    · rename_i pr b sc hb
      simp only [Bool.and_eq_true, decide_eq_true_eq, Bool.not_eq_true', List.isEmpty_eq_false_iff] at hs
      obtain ⟨⟨⟨s1, s2⟩, s3⟩, s4⟩ := hs
      obtain ⟨fd, D⟩ := c.t.d.defs (show dOf p.L r ∈ p.fn from List.mem_append_left _ (List.mem_map.mpr ⟨r, hr, rfl⟩))
      have e : dOf p.L r = ⟨(r.x, none), r.x, r.x, pr, b, sc, [], []⟩ := by
        unfold dOf
        rw [hb]
      rw [e] at D
      have D : FunD K r.x r.x pr b sc [] [] (He.ga K r.x) fd := D
      have gl : mg r.x = some (.ref (He.ga K r.x)) := He.glo_ok kin G (c.t.d.facts (by
        unfold Prg.fa
        exact List.mem_append_left _ (List.mem_append_left _ (List.mem_append_right _ (List.mem_map.mpr ⟨r, hr, rfl⟩)))))
      rw [hrx, hg] at gl
      obtain ⟨oc, od, dV, kV, doc, pm, an, cdv, ct, osl, hfd, lk, hcd, hD, hK⟩ := D.ex
      have dn : dV = .none := by
        rcases hD with ⟨_, z⟩ | ⟨z, _⟩
        · exact z
        · exact absurd rfl z
      subst dn
      have ea : He.ga K r.x = fa := by
        rw [hrx]
        have z := Option.some.inj gl
        injection z with z
        exact z.symm
      rw [ea] at lk
      refine ⟨fd, oc, od, osl, lk, fun us hu => ?_⟩
      rw [hfd, ← hx r hr hrx]
      exact par_bind s1 (by rw [hx r hr hrx]; exact hu)
    · cases hs
  obtain ⟨fd, oc, od, osl, lk, bd⟩ := rf
  refine ⟨fd, p.tf.map (He.cT K), spF γ 1 F, kin, fun q hq => ?_, fun z u => .of_eq (bd [u] rfl), fun H a ns hn hb tb hs => ?_, fun base kb gb tb => ?_⟩
  · obtain ⟨q2, h2, rfl⟩ := List.mem_map.mp hq
    exact tabs q2 h2
  · obtain ⟨s, hs'⟩ := good ns hn hb
    refine ⟨⟨[], fun _ => False, 0⟩, [], [.z ns], rfl, ⟨rfl, List.nodup_nil, fun a m => (List.not_mem_nil m).elim, fun a m => m.elim, fun l a c m => by simp at m, fun q hq => ?_, rfl⟩, .cons ⟨a, rfl, ?_⟩ .nil, ?_⟩
    · obtain ⟨q2, h2, rfl⟩ := List.mem_map.mp hq
      exact LamX.TabS.nil (tb _ (List.mem_map.mpr ⟨q2, h2, rfl⟩))
    · rcases hs with hs | hs
      · exact .inl ⟨fun z => z, hs⟩
      · exact .inr fun _ => .inr hs
    · rw [hs']
      intro u H' _ _ r
      cases r
      rfl
  · obtain ⟨g, fd', oc', od', osl', F1, g1, b1, l1⟩ := all base fun q hq => tb _ (List.mem_map.mpr ⟨q, hq, rfl⟩)
    rw [hg] at g1
    cases g1
    rw [lk] at l1
    cases l1
    exact F1
end NL
end
section
set_option Elab.async false
set_option linter.all false
set_option maxRecDepth 100000
set_option maxHeartbeats 0
/-! The layout of this program. -/
namespace NL
open PySem PySem.Spec PyProof.Rows L2
abbrev pwK : Program := PySem.Challenge.pw_nolawtells_k06_webs_nets_and_moral_links
def topK (i : Nat) : Stmt := pwK.main.body.getD i (.Pass ⟨0, 0, 0, 0⟩)
def defK (x : Str) : Option (Arguments × List Stmt × Scope) := pwK.main.body.findSome? fun s => match s with
  | .FunctionDef n a b _ _ _ sc _ _ _ => if n = x then some (a, b, sc) else none
  | _ => none
def rowsK : List Row := [
  ⟨"whole", 3, ["thing", "low", "high"], [], false, false⟩,
  ⟨"lot_form", 2, ["n", "thing", "last", "index", "number"], [], false, false⟩,
  ⟨"is_lot", 2, ["thing", "n"], [], false, false⟩,
  ⟨"asked_lot", 2, ["n", "thing", "wrong"], [], false, false⟩,
  ⟨"is_link", 2, ["n", "thing"], [], false, false⟩,
  ⟨"made_web", 1, ["thing", "n", "links", "index", "link"], [], false, false⟩,
  ⟨"made_net", 1, ["thing", "place", "parents"], [], false, false⟩,
  ⟨"above", 2, ["net", "lot", "found", "place", "parent"], ["found"], false, false⟩,
  ⟨"ancestors_of", 2, ["net", "lot"], [], false, false⟩,
  ⟨"moral_web", 2, ["net", "lot", "links", "place", "family", "at", "one", "other"], ["links"], false, false⟩,
  ⟨"_law_pool", 1, ["script", "at", "digits", "stirred", "cell"], [], true, false⟩,
  ⟨"_law_take", 2, ["jar", "many", "found"], ["jar"], false, false⟩,
  ⟨"_law_one", 2, ["jar", "things"], [], false, false⟩,
  ⟨"_law_mixed", 2, ["jar", "things", "go", "spare", "found"], ["found", "spare"], false, false⟩,
  ⟨"_law_ns_is_whole", 1, ["thing"], [], false, false⟩,
  ⟨"_law_ns_same", 2, ["heard_one", "owed", "at"], [], false, false⟩,
  ⟨"_law_nk_is_int", 3, ["thing", "low", "high"], [], false, false⟩,
  ⟨"_law_nk_lot_cause", 2, ["many", "thing", "at"], [], false, false⟩,
  ⟨"_law_nk_is_link", 2, ["n", "thing"], [], false, false⟩,
  ⟨"_law_nk_web_cause", 1, ["thing", "at", "n", "links"], [], false, false⟩,
  ⟨"_law_nk_net_cause", 1, ["thing", "bad", "v"], [], false, false⟩,
  ⟨"_law_nk_ancestors", 2, ["net", "lot", "found", "v", "u"], ["found"], false, false⟩,
  ⟨"_law_nk_moral_links", 2, ["net", "lot", "found", "v", "family", "at", "other"], ["found"], false, false⟩,
  ⟨"_law_nk_moral", 2, ["net", "lot", "links"], [], false, false⟩,
  ⟨"_law_nk_lot", 3, ["jar", "many", "part", "v"], [], false, false⟩,
  ⟨"_law_nk_net", 2, ["jar", "most", "v", "many", "form", "found", "near", "u"], ["found"], false, false⟩,
  ⟨"_law_nk_web", 2, ["jar", "most", "part", "found", "a", "n", "form", "b"], ["found"], false, false⟩,
  ⟨"_law_nw6_odd", 2, ["jar", "part", "some"], ["some"], false, false⟩,
  ⟨"_law_nw6_bent", 2, ["jar", "thing", "at", "form", "other"], [], false, false⟩,
  ⟨"_law_nw6_web_right", 1, ["jar", "thing", "go", "wrong", "owed"], [], false, true⟩,
  ⟨"_law_nw6_great_web_right", 1, ["jar", "a", "some", "odd", "answers", "owed", "n", "links", "b"], ["answers", "links"], false, true⟩,
  ⟨"_law_nw6_net_right", 2, ["jar", "net", "was", "go", "joined", "owed", "answers", "one", "other", "lot", "v"], ["answers"], false, true⟩,
  ⟨"_law_nw6_moral_right", 3, ["net", "lot", "joined", "answers", "wide", "due", "owed", "more", "link"], ["answers"], false, true⟩,
  ⟨"_law_nw6_refused_right", 2, ["jar", "net", "one", "two", "wrong", "due", "answers", "lot", "form"], ["answers"], false, true⟩,
  ⟨"_law_nw6_great_net_right", 1, ["jar", "many", "net", "wide", "few", "rim", "due", "answers", "owed", "v"], ["answers"], false, true⟩,
  ⟨"_law_nw6_hand_right", 0, ["net", "answers", "owed"], ["answers"], false, true⟩,
  ⟨"law", 1, ["script", "jar", "go", "net", "turn"], ["jar"], false, false⟩]
def csK : List (Str × Int) := [("MOST_OF_WEB", 60), ("MOST_LINKS", 400), ("MOST_OF_NET", 40)]
def exsK : List Str := ["TooMany", "BadLot", "BadWeb", "BadNet"]
def subK (n c : Str) : Bool := decide (n = c) || decide (c = "Refused")
def layK : Lay := { rows := rowsK, body := defK, cst := fun y => csK.lookup y, exs := exsK, sub := subK, told := fun y => if y = "_law_nw6_heard" then some (heardF "told" exsK pairH) else none }
def clsInit : Stmt → Option (Arguments × List Stmt × Scope)
  | .ClassDef _ _ _ b _ _ _ _ _ _ _ => b.findSome? fun s => match s with
    | .FunctionDef _ a b _ _ _ sc _ _ _ => some (a, b, sc)
    | _ => none
  | _ => none
def dHK : He.DefD := match defK "_law_nw6_heard" with
  | some (p, b, sc) => ⟨("_law_nw6_heard", none), "_law_nw6_heard", "_law_nw6_heard", p, b, sc, [], []⟩
  | none => ⟨("", none), "", "", ⟨[], [], none, [], [], none, []⟩, [], ⟨.function, [], false, false, []⟩, [], []⟩
def dIK : He.DefD := match clsInit (topK 1) with
  | some (p, b, sc) => ⟨("Refused", some "__init__"), "__init__", "Refused.__init__", p, b, sc, [], []⟩
  | none => ⟨("", none), "", "", ⟨[], [], none, [], [], none, []⟩, [], ⟨.function, [], false, false, []⟩, [], []⟩
def pK : Prg := { L := layK, cs := csK, bs := "Refused", hx := "_law_nw6_heard", hN := ["asked", "refused_one", "some", "name", "is_one"], hi := 1, dH := dHK, dI := dIK }
def looseK1 : List Str := ["Refused", "TooMany", "BadLot", "BadWeb", "BadNet", "whole", "lot_form", "is_lot", "asked_lot", "MOST_OF_WEB", "MOST_LINKS", "is_link", "made_web", "MOST_OF_NET", "made_net", "above", "ancestors_of", "moral_web", "_law_pool", "_law_take"]
def looseK2 : List Str := ["_law_one", "_law_mixed", "_law_ns_is_whole", "_law_ns_same", "_law_nk_is_int", "_law_nk_lot_cause", "_law_nk_is_link", "_law_nk_web_cause", "_law_nk_net_cause", "_law_nk_ancestors", "_law_nk_moral_links", "_law_nk_moral", "_law_nk_lot", "_law_nk_net", "_law_nk_web", "_law_nw6_heard", "_law_nw6_odd", "_law_nw6_bent", "_law_nw6_web_right", "_law_nw6_great_web_right"]
def looseK3 : List Str := ["_law_nw6_net_right", "_law_nw6_moral_right", "_law_nw6_refused_right", "_law_nw6_great_net_right", "_law_nw6_hand_right"]
def looseK : List Str := looseK1 ++ looseK2 ++ looseK3
abbrev RK : PySem.W.OpenRow := PySem.W.OpenLaw.row PySem.Challenge.rw_nolawtells_k06_webs_nets_and_moral_links
abbrev qK : Program := PySem.W.view RK.prog [51]
abbrev hkK : PySem.W.Hook := He.hookX 6 pK.fa pK.fn [] pK.tf pK.ex
def obK (s : PySem.W.SharedT) : He.AlX := He.obsX 6 pK.fa pK.fn [] pK.tf pK.ex (HandSHeadRun.getT s)
theorem obK_eq (s : PySem.W.SharedT) : obK s = hkK.obs s.abs := He.obsX_eq (HandSHeadRun.getT_eq s)
theorem runK (w : World) : HandSHeadRun.RunEq RK qK hkK obK 3000 looseK w := by
  intro os
  kernel_rfl
theorem okK : pK.okB = true := by kernel_rfl
end NL
end
section
set_option Elab.async false
set_option linter.all false
set_option maxRecDepth 100000
set_option maxHeartbeats 0
/-! The law, from what its def computes. -/
namespace NL
open PySem PySem.Spec PyProof.Rows L2
theorem look_mem {α : Type} {x : Str} {i : α} : ∀ {l : List (Str × α)}, l.lookup x = some i → (x, i) ∈ l
  | [], h => by cases h
  | (y, j) :: l, h => by
    rw [List.lookup_cons] at h
    cases q : x == y with
    | true =>
      rw [q] at h
      cases h
      rw [eq_of_beq q]
      exact List.mem_cons_self
    | false =>
      rw [q] at h
      exact List.mem_cons_of_mem _ (look_mem h)
def heardK : Str × Str × Str × Str × List Stmt := (heardOf dHK.body).getD ("", "", "", "", [])
theorem heardK_ok : heardOf pK.dH.body = some heardK := by kernel_rfl
def rtOf : Out Fl → Option PyData
  | .ok (.rt (.d x)) _ => some x
  | _ => none
theorem rt_of {o : Out Fl} {x : PyData} (h : rtOf o = some x) : ∃ st, o = .ok (.rt (.d x)) st := by
  unfold rtOf at h
  split at h
  · cases h
    exact ⟨_, rfl⟩
  · cases h
theorem resK : ∀ m ∈ pK.L.exs, ∀ y : PyData, ∃ st', blk (ev 12) (pK.hot pK.dH.scope heardK.1 heardK.2.2.2.1 m y) heardK.2.2.2.2 ((List.replicate pK.hN.length none).set pK.hi (some (.e 0))) [] = .ok (.rt (.d (pairH m y))) st' := by
  intro m hm y
  have hm : m ∈ exsK := hm
  simp only [exsK, List.mem_cons, List.not_mem_nil, or_false] at hm
  rcases hm with rfl | rfl | rfl | rfl
  all_goals
    refine rt_of ?_
    kernel_rfl
theorem rowK : ∀ r ∈ pK.L.rows, r.x = "law" → r.N.take r.ar = [("script" : Str)] := by
  have h : (pK.L.rows.all fun r => !decide (r.x = "law") || decide (r.N.take r.ar = [("script" : Str)])) = true := by kernel_rfl
  intro r hr e
  have z := List.all_eq_true.mp h r hr
  rw [decide_eq_true e] at z
  simpa using z
theorem toldK (x : Str) (f : Out AV → Out AV) (h : pK.L.told x = some f) : x = pK.hx ∧ f = heardF heardK.1 pK.L.exs pairH := by
  have h : (if x = "_law_nw6_heard" then some (heardF "told" exsK pairH) else none) = some f := h
  split at h
  · rename_i e
    cases h
    exact ⟨e, by rw [show heardK.1 = ("told" : Str) by kernel_rfl]; rfl⟩
  · cases h
end NL
open PySem PySem.W PySem.Calls PyProof.Rows
theorem NL.endK {m : Nat} {F : NL.DF} (hm : m < 76) (hl : NL.layK.df true (NL.layK.mean true m) (NL.layK.mean false m) "law" = some (.e 1 F))
    (good : ∀ ns : List Int, ns.length ≤ 63 → (∀ z ∈ ns, Builtin.Int.intBits z ≤ 1048576) → ∃ s, F [.z ns] [] = .ok (.d (.bool true)) s) : PySem.Challenge.rw_nolawtells_k06_webs_nets_and_moral_links.Holds := by
  w_on; o_law
  refine HandSHeadRun.head_any (r := NL.RK) (q := NL.qK) (H := NL.hkK) (ob := NL.obK) (M := 3000) (loose := NL.looseK) (d := HandSHeadRun.topDef NL.RK.prog 51) (kwd := []) NL.obK_eq
    (by kernel_rfl) (fun s => by kernel_rfl) NL.runK (by kernel_rfl) (by kernel_rfl) (by kernel_rfl) (by rfl) (by first | assumption | decide +kernel) (by decide +kernel) ⟨rfl, rfl, rfl, rfl, rfl, by decide +kernel⟩ ?hw ?hc
  case hw => w_witness2
  case hc =>
    refine NL.walkG (l := PySem.Challenge.rw_nolawtells_k06_webs_nets_and_moral_links) (n := 63) (k := 3 * (m + 1)) (x := "script") rfl (by decide) (by kernel_rfl) ⟨rfl, ?_, ?_⟩ ?F
    · show 1 + claimMargin + 3 * (3 * (m + 1)) + 5 < recursionLimit
      have : claimMargin = 300 := by decide
      have : recursionLimit = 1000 := by decide
      omega
    · show 4 + 16 * (3 * (m + 1)) + 200 < cLine
      have : cLine = 9900 := by decide
      omega
    intro w mg fa h Y G hg
    have e : (HandSHeadRun.topDef NL.RK.prog 51).name = ("law" : PySem.Str) := by kernel_rfl
    rw [e] at hg
    exact NL.prg_law NL.okK (fun x i h => NL.look_mem h) NL.toldK NL.heardK_ok NL.resK rfl rfl hl NL.rowK good Y G hg
end
section
set_option Elab.async false
set_option linter.all false
set_option maxRecDepth 100000
set_option maxHeartbeats 400000
/-! Each def as operations. -/
namespace NL
open PySem PySem.Spec PyProof.Rows L2
/-- what the def x computes, of so much fuel -/
def D (g : Bool) (x : Str) (m : Nat) : DF := match layK.mean g m x with
  | some (.e _ F) => F
  | _ => fun _ _ => .stuck
def DNn (g : Bool) (x : Str) (m : Nat) : DN := match layK.mean g m x with
  | some (.n _ F) => F
  | _ => fun _ _ => .stuck
def hrd (f : FE) : FE := fun e st => heardF "told" exsK pairH (f e st)
theorem u_whole (g : Bool) (m : Nat) : D g "whole" (m + 2) = runE (sRet (eAnd (eIsi "int" (eVar 0)) (eAnd (eNot (eIsi "bool" (eVar 0))) (eChain fLe fLe (eVar 1) (eVar 0) (eVar 2))))) ["thing", "low", "high"] := by kernel_rfl
def b0_lot_form (g : Bool) (m : Nat) : FS := (sSeq (sIf (tNot' (tOf (eCall (ofN 3 (D g "whole" m)) (aCons (eVar 4) (aCons (eOp fAdd (eVar 2) (eC (.int 1))) (aCons (eOp fSub (eVar 0) (eC (.int 1))) aNil))))))
      (sRet (eVar 3))
      sNil)
    (sAsg (gNm 2) (eVar 4)))
theorem xb0_lot_form (g : Bool) (m : Nat) (a : Env) (st : Store) : b0_lot_form g m a st = (sSeq (sIf (tNot' (tOf (eCall (ofN 3 (D g "whole" m)) (aCons (eVar 4) (aCons (eOp fAdd (eVar 2) (eC (.int 1))) (aCons (eOp fSub (eVar 0) (eC (.int 1))) aNil))))))
      (sRet (eVar 3))
      sNil)
    (sAsg (gNm 2) (eVar 4))) a st := rfl
theorem u_lot_form (g : Bool) (m : Nat) : D g "lot_form" (m + 2) = runE (sSeq (sIf (tNot' (tOf (eIsi "tuple" (eVar 1))))
      (sRet (eNeg (eC (.int 1))))
      sNil)
    (sSeq (sAsg (gNm 2) (eNeg (eC (.int 1))))
    (sSeq (sFor (sEnum (eVar 1)) (gUn [3, 4]) (b0_lot_form g (m + 1)))
    (sRet (eC .none))))) ["n", "thing", "last", "index", "number"] := by kernel_rfl
theorem u_is_lot (g : Bool) (m : Nat) : D g "is_lot" (m + 2) = runE (sRet (eOp (fIs .none false) (eCall (ofN 2 (D g "lot_form" (m + 1))) (aCons (eVar 1) (aCons (eVar 0) aNil))) (eC .none))) ["thing", "n"] := by kernel_rfl
theorem u_asked_lot (g : Bool) (m : Nat) : D g "asked_lot" (m + 2) = runE (sSeq (sAsg (gNm 2) (eCall (ofN 2 (D g "lot_form" (m + 1))) (aCons (eVar 0) (aCons (eVar 1) aNil))))
    (sSeq (sIf (tOf (eOp (fIs .none true) (eVar 2) (eC .none)))
      (sRaise "BadLot" (eVar 2))
      sNil)
    (sRet (eVar 1)))) ["n", "thing", "wrong"] := by kernel_rfl
theorem u_is_link (g : Bool) (m : Nat) : D g "is_link" (m + 2) = runE (sSeq (sIf (tOr' (tNot' (tOf (eIsi "tuple" (eVar 1)))) (tOr' (tOf (eOp fNe (eCB gLen (aCons (eVar 1) aNil)) (eC (.int 2)))) (tNot' (tOf (eCall (ofN 3 (D g "whole" (m + 1))) (aCons (eOp fSub1 (eVar 1) (eC (.int 0))) (aCons (eC (.int 0)) (aCons (eOp fSub (eVar 0) (eC (.int 1))) aNil))))))))
      (sRet (eC (.bool false)))
      sNil)
    (sRet (eCall (ofN 3 (D g "whole" (m + 1))) (aCons (eOp fSub1 (eVar 1) (eC (.int 1))) (aCons (eOp fAdd (eOp fSub1 (eVar 1) (eC (.int 0))) (eC (.int 1))) (aCons (eOp fSub (eVar 0) (eC (.int 1))) aNil)))))) ["n", "thing"] := by kernel_rfl
def b0_made_web (g : Bool) (m : Nat) : FS := (sIf (tOr' (tNot' (tOf (eCall (ofN 2 (D g "is_link" m)) (aCons (eVar 1) (aCons (eVar 4) aNil))))) (tAnd' (tOf (eOp fGt (eVar 3) (eC (.int 0)))) (tOf (eOp fLe (eVar 4) (eOp fSub1 (eVar 2) (eOp fSub (eVar 3) (eC (.int 1))))))))
      (sRaise "BadWeb" (eTup (aCons (eC (.int 1)) (aCons (eVar 3) aNil))))
      sNil)
theorem xb0_made_web (g : Bool) (m : Nat) (a : Env) (st : Store) : b0_made_web g m a st = (sIf (tOr' (tNot' (tOf (eCall (ofN 2 (D g "is_link" m)) (aCons (eVar 1) (aCons (eVar 4) aNil))))) (tAnd' (tOf (eOp fGt (eVar 3) (eC (.int 0)))) (tOf (eOp fLe (eVar 4) (eOp fSub1 (eVar 2) (eOp fSub (eVar 3) (eC (.int 1))))))))
      (sRaise "BadWeb" (eTup (aCons (eC (.int 1)) (aCons (eVar 3) aNil))))
      sNil) a st := rfl
theorem u_made_web (g : Bool) (m : Nat) : D g "made_web" (m + 2) = runE (sSeq (sIf (tOr' (tNot' (tOf (eIsi "tuple" (eVar 0)))) (tOf (eOp fNe (eCB gLen (aCons (eVar 0) aNil)) (eC (.int 2)))))
      (sRaise "BadWeb" (eNeg (eC (.int 1))))
      sNil)
    (sSeq (sAsg (gUn [1, 2]) (eVar 0))
    (sSeq (sIf (tNot' (tOf (eCall (ofN 3 (D g "whole" (m + 1))) (aCons (eVar 1) (aCons (eC (.int 0)) (aCons (eC (.int 60)) aNil))))))
      (sRaise "BadWeb" (eC (.int 0)))
      sNil)
    (sSeq (sIf (tNot' (tOf (eIsi "tuple" (eVar 2))))
      (sRaise "BadWeb" (eC (.int 1)))
      sNil)
    (sSeq (sIf (tOf (eOp fGt (eCB gLen (aCons (eVar 2) aNil)) (eC (.int 400))))
      (sRaise "TooMany" (eCB gLen (aCons (eVar 2) aNil)))
      sNil)
    (sSeq (sFor (sEnum (eVar 2)) (gUn [3, 4]) (b0_made_web g (m + 1)))
    (sRet (eTup (aCons (eVar 1) (aCons (eCB gTuple (aCons (frzF (nLc (sAny (eVar 2)) (gNm 4) tYes' (eCB gTuple (aCons (eVar 4) aNil)) [4])) aNil)) aNil)))))))))) ["thing", "n", "links", "index", "link"] := by kernel_rfl
def b0_made_net (g : Bool) (m : Nat) : FS := (sIf (tNot' (tOf (eCall (ofN 2 (D g "is_lot" m)) (aCons (eVar 2) (aCons (eVar 1) aNil)))))
      (sRaise "BadNet" (eVar 1))
      sNil)
theorem xb0_made_net (g : Bool) (m : Nat) (a : Env) (st : Store) : b0_made_net g m a st = (sIf (tNot' (tOf (eCall (ofN 2 (D g "is_lot" m)) (aCons (eVar 2) (aCons (eVar 1) aNil)))))
      (sRaise "BadNet" (eVar 1))
      sNil) a st := rfl
theorem u_made_net (g : Bool) (m : Nat) : D g "made_net" (m + 2) = runE (sSeq (sIf (tOr' (tNot' (tOf (eIsi "tuple" (eVar 0)))) (tOf (eOp fGt (eCB gLen (aCons (eVar 0) aNil)) (eC (.int 40)))))
      (sRaise "BadNet" (eNeg (eC (.int 1))))
      sNil)
    (sSeq (sFor (sEnum (eVar 0)) (gUn [1, 2]) (b0_made_net g (m + 1)))
    (sRet (eCB gTuple (aCons (frzF (nLc (sAny (eVar 0)) (gNm 2) tYes' (eCB gTuple (aCons (eVar 2) aNil)) [2])) aNil))))) ["thing", "place", "parents"] := by kernel_rfl
def b0_above (g : Bool) (m : Nat) : FS := (sIf (tOf (eOp fIn (eVar 3) (eVar 2)))
      (sDrop (eM "dict" mUpdate (eVar 2) (aCons (frzF (nDc (sAny (eOp fSub1 (eVar 0) (eVar 3))) (gNm 4) tYes' (eVar 4) (eC (.bool true)) [4])) aNil)))
      sNil)
theorem xb0_above (g : Bool) (m : Nat) (a : Env) (st : Store) : b0_above g m a st = (sIf (tOf (eOp fIn (eVar 3) (eVar 2)))
      (sDrop (eM "dict" mUpdate (eVar 2) (aCons (frzF (nDc (sAny (eOp fSub1 (eVar 0) (eVar 3))) (gNm 4) tYes' (eVar 4) (eC (.bool true)) [4])) aNil)))
      sNil) a st := rfl
theorem u_above (g : Bool) (m : Nat) : D g "above" (m + 2) = runE (sSeq (sAsg (gNm 2) (thaw (nDc (sAny (eVar 1)) (gNm 3) tYes' (eVar 3) (eC (.bool true)) [3])))
    (sSeq (sFor (sRg3 (aCons (eOp fSub (eCB gLen (aCons (eVar 0) aNil)) (eC (.int 1))) (aCons (eNeg (eC (.int 1))) (aCons (eNeg (eC (.int 1))) aNil)))) (gNm 3) (b0_above g (m + 1)))
    (sRet (eCB gSort (aCons (eVar 2) aNil))))) ["net", "lot", "found", "place", "parent"] := by kernel_rfl
theorem u_ancestors_of (g : Bool) (m : Nat) : D g "ancestors_of" (m + 2) = runE (sSeq (sDrop (eCall (ofN 1 (D g "made_net" (m + 1))) (aCons (eVar 0) aNil)))
    (sSeq (sDrop (eCall (ofN 2 (D g "asked_lot" (m + 1))) (aCons (eCB gLen (aCons (eVar 0) aNil)) (aCons (eVar 1) aNil))))
    (sRet (eCB gTuple (aCons (eCall (ofN 2 (D g "above" (m + 1))) (aCons (eVar 0) (aCons (eVar 1) aNil))) aNil))))) ["net", "lot"] := by kernel_rfl
def b1_moral_web (g : Bool) (m : Nat) : FS := (sDrop (eM "dict" mUpdate (eVar 2) (aCons (frzF (nDt (sAny (eSl (eVar 4) (oSome (eOp fAdd (eVar 5) (eC (.int 1)))) oNone)) (gNm 7) tYes' (eTup (aCons (eVar 6) (aCons (eVar 7) aNil))) (eC (.bool true)) [7])) aNil)))
theorem xb1_moral_web (g : Bool) (m : Nat) (a : Env) (st : Store) : b1_moral_web g m a st = (sDrop (eM "dict" mUpdate (eVar 2) (aCons (frzF (nDt (sAny (eSl (eVar 4) (oSome (eOp fAdd (eVar 5) (eC (.int 1)))) oNone)) (gNm 7) tYes' (eTup (aCons (eVar 6) (aCons (eVar 7) aNil))) (eC (.bool true)) [7])) aNil))) a st := rfl
def b0_moral_web (g : Bool) (m : Nat) : FS := (sSeq (sAsg (gNm 4) (frzF (nLst (aStar (eOp fSub1 (eVar 0) (eVar 3)) (aCons (eVar 3) aNil)))))
    (sFor (sEnum (eVar 4)) (gUn [5, 6]) (b1_moral_web g m)))
theorem xb0_moral_web (g : Bool) (m : Nat) (a : Env) (st : Store) : b0_moral_web g m a st = (sSeq (sAsg (gNm 4) (frzF (nLst (aStar (eOp fSub1 (eVar 0) (eVar 3)) (aCons (eVar 3) aNil)))))
    (sFor (sEnum (eVar 4)) (gUn [5, 6]) (b1_moral_web g m))) a st := rfl
theorem u_moral_web (g : Bool) (m : Nat) : D g "moral_web" (m + 2) = runE (sSeq (sDrop (eCall (ofN 1 (D g "made_net" (m + 1))) (aCons (eVar 0) aNil)))
    (sSeq (sDrop (eCall (ofN 2 (D g "asked_lot" (m + 1))) (aCons (eCB gLen (aCons (eVar 0) aNil)) (aCons (eVar 1) aNil))))
    (sSeq (sAsg (gNm 2) (thaw (nNew (.d (.t [])))))
    (sSeq (sFor (sAny (eCall (ofN 2 (D g "above" (m + 1))) (aCons (eVar 0) (aCons (eVar 1) aNil)))) (gNm 3) (b0_moral_web g (m + 1)))
    (sSeq (sIf (tOf (eOp fGt (eCB gLen (aCons (eVar 2) aNil)) (eC (.int 400))))
      (sRaise "TooMany" (eCB gLen (aCons (eVar 2) aNil)))
      sNil)
    (sRet (eTup (aCons (eCB gLen (aCons (eVar 0) aNil)) (aCons (eCB gTuple (aCons (eCB gSort (aCons (eVar 2) aNil)) aNil)) aNil))))))))) ["net", "lot", "links", "place", "family", "at", "one", "other"] := by kernel_rfl
def b0_law_pool (g : Bool) (m : Nat) : FS := (sSeq (sAsg (gNm 4) (eCB gInt (aCons (eCB gMax (aCons (eOp fSub1 (eVar 0) (eVar 1)) (aCons (eOp fSub (eNeg (eC (.int 1))) (eOp fSub1 (eVar 0) (eVar 1))) aNil))) aNil)))
    (sSeq (sAsg (gNm 3) (eOp fMod (eCB gInt (aCons (eOp fAdd (eOp fAdd (eOp fMul (eVar 3) (eC (.int 48271))) (eOp fMod (eVar 4) (eC (.int 2147483629)))) (eC (.int 11))) aNil)) (eC (.int 2147483647))))
    (sAsg (gNm 2) (eIf (tAnd' (tOf (eOp fGe (eVar 4) (eOp fPow (eC (.int 10)) (eC (.int 12))))) (tOf (eOp fLt (eVar 2) (eOp fPow (eC (.int 10)) (eC (.int 60)))))) (eCB gInt (aCons (eOp fAdd (eOp fMul (eVar 2) (eOp fPow (eC (.int 10)) (eC (.int 60)))) (eOp fMod (eVar 4) (eOp fPow (eC (.int 10)) (eC (.int 60))))) aNil)) (eVar 2)))))
theorem xb0_law_pool (g : Bool) (m : Nat) (a : Env) (st : Store) : b0_law_pool g m a st = (sSeq (sAsg (gNm 4) (eCB gInt (aCons (eCB gMax (aCons (eOp fSub1 (eVar 0) (eVar 1)) (aCons (eOp fSub (eNeg (eC (.int 1))) (eOp fSub1 (eVar 0) (eVar 1))) aNil))) aNil)))
    (sSeq (sAsg (gNm 3) (eOp fMod (eCB gInt (aCons (eOp fAdd (eOp fAdd (eOp fMul (eVar 3) (eC (.int 48271))) (eOp fMod (eVar 4) (eC (.int 2147483629)))) (eC (.int 11))) aNil)) (eC (.int 2147483647))))
    (sAsg (gNm 2) (eIf (tAnd' (tOf (eOp fGe (eVar 4) (eOp fPow (eC (.int 10)) (eC (.int 12))))) (tOf (eOp fLt (eVar 2) (eOp fPow (eC (.int 10)) (eC (.int 60)))))) (eCB gInt (aCons (eOp fAdd (eOp fMul (eVar 2) (eOp fPow (eC (.int 10)) (eC (.int 60)))) (eOp fMod (eVar 4) (eOp fPow (eC (.int 10)) (eC (.int 60))))) aNil)) (eVar 2))))) a st := rfl
theorem u_law_pool (g : Bool) (m : Nat) : DNn g "_law_pool" (m + 2) = runN (sSeq (sPar [2, 3] (aCons (eC (.int 0)) (aCons (eC (.int 7)) aNil)))
    (sSeq (sFor (sRg1 (aCons (eCB gLen (aCons (eVar 0) aNil)) aNil)) (gNm 1) (b0_law_pool g (m + 1)))
    (sRet (thaw (nLst (aCons (eVar 2) (aCons (eVar 3) (aCons (eC (.int 0)) aNil)))))))) ["script", "at", "digits", "stirred", "cell"] := by kernel_rfl
theorem u_law_take (g : Bool) (m : Nat) : D g "_law_take" (m + 2) = runE (sSeq (sIf (tOf (eOp fGt (eOp fSub1 (eVar 0) (eC (.int 0))) (eC (.int 0))))
      (sSeq (sAsg (gNm 2) (eOp fMod (eCB gInt (aCons (eOp fSub1 (eVar 0) (eC (.int 0))) aNil)) (eVar 1)))
      (sSeq (sPutL (eVar 0) (eC (.int 0)) (eOp fDiv (eOp fSub1 (eVar 0) (eC (.int 0))) (eVar 1)))
      (sRet (eVar 2))))
      sNil)
    (sSeq (sPutL (eVar 0) (eC (.int 2)) (eOp fAdd (eOp fSub1 (eVar 0) (eC (.int 2))) (eC (.int 1))))
    (sSeq (sPutL (eVar 0) (eC (.int 1)) (eOp fMod (eCB gInt (aCons (eOp fAdd (eOp fAdd (eOp fMul (eOp fSub1 (eVar 0) (eC (.int 1))) (eC (.int 39373))) (eOp fMul (eC (.int 7919)) (eOp fSub1 (eVar 0) (eC (.int 2))))) (eC (.int 7))) aNil)) (eC (.int 2147483647))))
    (sRet (eOp fMod (eCB gInt (aCons (eOp fDiv (eOp fMod (eCB gInt (aCons (eOp fMul (eOp fSub1 (eVar 0) (eC (.int 1))) (eOp fSub1 (eVar 0) (eC (.int 1)))) aNil)) (eC (.int 2147483629))) (eC (.int 32))) aNil)) (eVar 1)))))) ["jar", "many", "found"] := by kernel_rfl
theorem u_law_one (g : Bool) (m : Nat) : D g "_law_one" (m + 2) = runE (sRet (eOp fSub1 (eVar 1) (eCall (ofN 2 (D g "_law_take" (m + 1))) (aCons (eVar 0) (aCons (eCB gLen (aCons (eVar 1) aNil)) aNil))))) ["jar", "things"] := by kernel_rfl
def b0_law_mixed (g : Bool) (m : Nat) : FS := (sDrop (eM "list" mAppend (eVar 4) (aCons (eM "list" mPopAt (eVar 3) (aCons (eCall (ofN 2 (D g "_law_take" m)) (aCons (eVar 0) (aCons (eCB gLen (aCons (eVar 3) aNil)) aNil))) aNil)) aNil)))
theorem xb0_law_mixed (g : Bool) (m : Nat) (a : Env) (st : Store) : b0_law_mixed g m a st = (sDrop (eM "list" mAppend (eVar 4) (aCons (eM "list" mPopAt (eVar 3) (aCons (eCall (ofN 2 (D g "_law_take" m)) (aCons (eVar 0) (aCons (eCB gLen (aCons (eVar 3) aNil)) aNil))) aNil)) aNil))) a st := rfl
theorem u_law_mixed (g : Bool) (m : Nat) : D g "_law_mixed" (m + 2) = runE (sSeq (sPar [3, 4] (aCons (thaw (nCB hList (aCons (eVar 1) aNil))) (aCons (thaw (nLst aNil)) aNil)))
    (sSeq (sFor (sRg1 (aCons (eCB gLen (aCons (eVar 1) aNil)) aNil)) (gNm 2) (b0_law_mixed g (m + 1)))
    (sRet (eVar 4)))) ["jar", "things", "go", "spare", "found"] := by kernel_rfl
theorem u_law_ns_is_whole (g : Bool) (m : Nat) : D g "_law_ns_is_whole" (m + 2) = runE (sRet (eAnd (eIsi "int" (eVar 0)) (eNot (eIsi "bool" (eVar 0))))) ["thing"] := by kernel_rfl
def b0_law_ns_same (g : Bool) (m : Nat) : FS := (sIf (tNot' (tOf (eCall (ofN 2 (D g "_law_ns_same" m)) (aCons (eOp fSub1 (eVar 0) (eVar 2)) (aCons (eOp fSub1 (eVar 1) (eVar 2)) aNil)))))
      (sRet (eC (.bool false)))
      sNil)
theorem xb0_law_ns_same (g : Bool) (m : Nat) (a : Env) (st : Store) : b0_law_ns_same g m a st = (sIf (tNot' (tOf (eCall (ofN 2 (D g "_law_ns_same" m)) (aCons (eOp fSub1 (eVar 0) (eVar 2)) (aCons (eOp fSub1 (eVar 1) (eVar 2)) aNil)))))
      (sRet (eC (.bool false)))
      sNil) a st := rfl
theorem u_law_ns_same (g : Bool) (m : Nat) : D g "_law_ns_same" (m + 2) = runE (sSeq (sIf (tOf (eOp (fIs .none false) (eVar 1) (eC .none)))
      (sRet (eOp (fIs .none false) (eVar 0) (eC .none)))
      sNil)
    (sSeq (sIf (tOf (eIsi "bool" (eVar 1)))
      (sRet (eIf (tOf (eVar 1)) (eOp (fIs (.bool true) false) (eVar 0) (eC (.bool true))) (eOp (fIs (.bool false) false) (eVar 0) (eC (.bool false)))))
      sNil)
    (sSeq (sIf (tOf (eIsi "int" (eVar 1)))
      (sRet (eAnd (eCall (ofN 1 (D g "_law_ns_is_whole" (m + 1))) (aCons (eVar 0) aNil)) (eOp fEq (eVar 0) (eVar 1))))
      sNil)
    (sSeq (sIf (tOf (eIsi "str" (eVar 1)))
      (sRet (eAnd (eIsi "str" (eVar 0)) (eOp fEq (eVar 0) (eVar 1))))
      sNil)
    (sSeq (sIf (tAnd' (tNot' (tOf (eIsi "tuple" (eVar 1)))) (tNot' (tOf (eIsi "list" (eVar 1)))))
      (sRet stop)
      sNil)
    (sSeq (sIf (tOf (eOp fNe (eIsi "tuple" (eVar 1)) (eIsi "tuple" (eVar 0))))
      (sRet (eC (.bool false)))
      sNil)
    (sSeq (sIf (tOf (eOp fNe (eIsi "list" (eVar 1)) (eIsi "list" (eVar 0))))
      (sRet (eC (.bool false)))
      sNil)
    (sSeq (sIf (tOf (eOp fNe (eCB gLen (aCons (eVar 0) aNil)) (eCB gLen (aCons (eVar 1) aNil))))
      (sRet (eC (.bool false)))
      sNil)
    (sSeq (sFor (sRg1 (aCons (eCB gLen (aCons (eVar 1) aNil)) aNil)) (gNm 2) (b0_law_ns_same g (m + 1)))
    (sRet (eC (.bool true)))))))))))) ["heard_one", "owed", "at"] := by kernel_rfl
theorem u_law_nk_is_int (g : Bool) (m : Nat) : D g "_law_nk_is_int" (m + 2) = runE (sRet (eAnd (eIsi "int" (eVar 0)) (eAnd (eNot (eIsi "bool" (eVar 0))) (eChain fLe fLe (eVar 1) (eVar 0) (eVar 2))))) ["thing", "low", "high"] := by kernel_rfl
def b0_law_nk_lot_cause (g : Bool) (m : Nat) : FS := (sIf (tOr' (tNot' (tOf (eCall (ofN 3 (D g "_law_nk_is_int" m)) (aCons (eOp fSub1 (eVar 1) (eVar 2)) (aCons (eC (.int 0)) (aCons (eOp fSub (eVar 0) (eC (.int 1))) aNil)))))) (tAnd' (tOf (eOp fGt (eVar 2) (eC (.int 0)))) (tOf (eOp fLe (eOp fSub1 (eVar 1) (eVar 2)) (eOp fSub1 (eVar 1) (eOp fSub (eVar 2) (eC (.int 1))))))))
      (sRet (eTup (aCons (eC (.str "BadLot")) (aCons (eVar 2) aNil))))
      sNil)
theorem xb0_law_nk_lot_cause (g : Bool) (m : Nat) (a : Env) (st : Store) : b0_law_nk_lot_cause g m a st = (sIf (tOr' (tNot' (tOf (eCall (ofN 3 (D g "_law_nk_is_int" m)) (aCons (eOp fSub1 (eVar 1) (eVar 2)) (aCons (eC (.int 0)) (aCons (eOp fSub (eVar 0) (eC (.int 1))) aNil)))))) (tAnd' (tOf (eOp fGt (eVar 2) (eC (.int 0)))) (tOf (eOp fLe (eOp fSub1 (eVar 1) (eVar 2)) (eOp fSub1 (eVar 1) (eOp fSub (eVar 2) (eC (.int 1))))))))
      (sRet (eTup (aCons (eC (.str "BadLot")) (aCons (eVar 2) aNil))))
      sNil) a st := rfl
theorem u_law_nk_lot_cause (g : Bool) (m : Nat) : D g "_law_nk_lot_cause" (m + 2) = runE (sSeq (sIf (tNot' (tOf (eIsi "tuple" (eVar 1))))
      (sRet (eTup (aCons (eC (.str "BadLot")) (aCons (eNeg (eC (.int 1))) aNil))))
      sNil)
    (sSeq (sFor (sRg1 (aCons (eCB gLen (aCons (eVar 1) aNil)) aNil)) (gNm 2) (b0_law_nk_lot_cause g (m + 1)))
    (sRet (eC .none)))) ["many", "thing", "at"] := by kernel_rfl
theorem u_law_nk_is_link (g : Bool) (m : Nat) : D g "_law_nk_is_link" (m + 2) = runE (sSeq (sIf (tOr' (tNot' (tOf (eIsi "tuple" (eVar 1)))) (tOf (eOp fNe (eCB gLen (aCons (eVar 1) aNil)) (eC (.int 2)))))
      (sRet (eC (.bool false)))
      sNil)
    (sRet (eAnd (eCall (ofN 3 (D g "_law_nk_is_int" (m + 1))) (aCons (eOp fSub1 (eVar 1) (eC (.int 0))) (aCons (eC (.int 0)) (aCons (eOp fSub (eVar 0) (eC (.int 1))) aNil)))) (eCall (ofN 3 (D g "_law_nk_is_int" (m + 1))) (aCons (eOp fSub1 (eVar 1) (eC (.int 1))) (aCons (eOp fAdd (eOp fSub1 (eVar 1) (eC (.int 0))) (eC (.int 1))) (aCons (eOp fSub (eVar 0) (eC (.int 1))) aNil))))))) ["n", "thing"] := by kernel_rfl
def b0_law_nk_web_cause (g : Bool) (m : Nat) : FS := (sIf (tOr' (tNot' (tOf (eCall (ofN 2 (D g "_law_nk_is_link" m)) (aCons (eVar 2) (aCons (eOp fSub1 (eVar 3) (eVar 1)) aNil))))) (tAnd' (tOf (eOp fGt (eVar 1) (eC (.int 0)))) (tNot' (tOf (eOp fLt (eOp fSub1 (eVar 3) (eOp fSub (eVar 1) (eC (.int 1)))) (eOp fSub1 (eVar 3) (eVar 1)))))))
      (sRet (eTup (aCons (eC (.str "BadWeb")) (aCons (eTup (aCons (eC (.int 1)) (aCons (eVar 1) aNil))) aNil))))
      sNil)
theorem xb0_law_nk_web_cause (g : Bool) (m : Nat) (a : Env) (st : Store) : b0_law_nk_web_cause g m a st = (sIf (tOr' (tNot' (tOf (eCall (ofN 2 (D g "_law_nk_is_link" m)) (aCons (eVar 2) (aCons (eOp fSub1 (eVar 3) (eVar 1)) aNil))))) (tAnd' (tOf (eOp fGt (eVar 1) (eC (.int 0)))) (tNot' (tOf (eOp fLt (eOp fSub1 (eVar 3) (eOp fSub (eVar 1) (eC (.int 1)))) (eOp fSub1 (eVar 3) (eVar 1)))))))
      (sRet (eTup (aCons (eC (.str "BadWeb")) (aCons (eTup (aCons (eC (.int 1)) (aCons (eVar 1) aNil))) aNil))))
      sNil) a st := rfl
theorem u_law_nk_web_cause (g : Bool) (m : Nat) : D g "_law_nk_web_cause" (m + 2) = runE (sSeq (sIf (tOr' (tNot' (tOf (eIsi "tuple" (eVar 0)))) (tOf (eOp fNe (eCB gLen (aCons (eVar 0) aNil)) (eC (.int 2)))))
      (sRet (eTup (aCons (eC (.str "BadWeb")) (aCons (eNeg (eC (.int 1))) aNil))))
      sNil)
    (sSeq (sAsg (gUn [2, 3]) (eVar 0))
    (sSeq (sIf (tNot' (tOf (eCall (ofN 3 (D g "_law_nk_is_int" (m + 1))) (aCons (eVar 2) (aCons (eC (.int 0)) (aCons (eC (.int 60)) aNil))))))
      (sRet (eTup (aCons (eC (.str "BadWeb")) (aCons (eC (.int 0)) aNil))))
      sNil)
    (sSeq (sIf (tNot' (tOf (eIsi "tuple" (eVar 3))))
      (sRet (eTup (aCons (eC (.str "BadWeb")) (aCons (eC (.int 1)) aNil))))
      sNil)
    (sSeq (sIf (tOf (eOp fGt (eCB gLen (aCons (eVar 3) aNil)) (eC (.int 400))))
      (sRet (eTup (aCons (eC (.str "TooMany")) (aCons (eCB gLen (aCons (eVar 3) aNil)) aNil))))
      sNil)
    (sSeq (sFor (sRg1 (aCons (eCB gLen (aCons (eVar 3) aNil)) aNil)) (gNm 1) (b0_law_nk_web_cause g (m + 1)))
    (sRet (eC .none)))))))) ["thing", "at", "n", "links"] := by kernel_rfl
theorem u_law_nk_net_cause (g : Bool) (m : Nat) : D g "_law_nk_net_cause" (m + 2) = runE (sSeq (sIf (tOr' (tNot' (tOf (eIsi "tuple" (eVar 0)))) (tOf (eOp fGt (eCB gLen (aCons (eVar 0) aNil)) (eC (.int 40)))))
      (sRet (eTup (aCons (eC (.str "BadNet")) (aCons (eNeg (eC (.int 1))) aNil))))
      sNil)
    (sSeq (sAsg (gNm 1) (frzF (nLc (sRg1 (aCons (eCB gLen (aCons (eVar 0) aNil)) aNil)) (gNm 2) (tOf (eOp (fIs .none true) (eCall (ofN 2 (D g "_law_nk_lot_cause" (m + 1))) (aCons (eVar 2) (aCons (eOp fSub1 (eVar 0) (eVar 2)) aNil))) (eC .none))) (eVar 2) [2])))
    (sRet (eIf (tOf (eOp fNe (eVar 1) (frzF (nLst aNil)))) (eTup (aCons (eC (.str "BadNet")) (aCons (eOp fSub1 (eVar 1) (eC (.int 0))) aNil))) (eC .none))))) ["thing", "bad", "v"] := by kernel_rfl
def b0_law_nk_ancestors (g : Bool) (m : Nat) : FS := (sIf (tOf (eOp fIn (eVar 3) (eVar 2)))
      (sDrop (eM "dict" mUpdate (eVar 2) (aCons (frzF (nCB hDictK (aCons (frzF (nLc (sAny (eOp fSub1 (eVar 0) (eVar 3))) (gNm 4) tYes' (eTup (aCons (eVar 4) (aCons (eC (.bool true)) aNil))) [4])) aNil))) aNil)))
      sNil)
theorem xb0_law_nk_ancestors (g : Bool) (m : Nat) (a : Env) (st : Store) : b0_law_nk_ancestors g m a st = (sIf (tOf (eOp fIn (eVar 3) (eVar 2)))
      (sDrop (eM "dict" mUpdate (eVar 2) (aCons (frzF (nCB hDictK (aCons (frzF (nLc (sAny (eOp fSub1 (eVar 0) (eVar 3))) (gNm 4) tYes' (eTup (aCons (eVar 4) (aCons (eC (.bool true)) aNil))) [4])) aNil))) aNil)))
      sNil) a st := rfl
theorem u_law_nk_ancestors (g : Bool) (m : Nat) : D g "_law_nk_ancestors" (m + 2) = runE (sSeq (sAsg (gNm 2) (thaw (nCB hDictK (aCons (frzF (nLc (sAny (eVar 1)) (gNm 3) tYes' (eTup (aCons (eVar 3) (aCons (eC (.bool true)) aNil))) [3])) aNil))))
    (sSeq (sFor (sRg3 (aCons (eOp fSub (eCB gLen (aCons (eVar 0) aNil)) (eC (.int 1))) (aCons (eNeg (eC (.int 1))) (aCons (eNeg (eC (.int 1))) aNil)))) (gNm 3) (b0_law_nk_ancestors g (m + 1)))
    (sRet (eCB gTuple (aCons (eCB gSort (aCons (eVar 2) aNil)) aNil))))) ["net", "lot", "found", "v", "u"] := by kernel_rfl
def b1_law_nk_moral_links (g : Bool) (m : Nat) : FS := (sDrop (eM "dict" mUpdate (eVar 2) (aCons (frzF (nCB hDictT (aCons (frzF (nLc (sAny (eSl (eVar 4) (oSome (eOp fAdd (eVar 5) (eC (.int 1)))) oNone)) (gNm 6) tYes' (eTup (aCons (eTup (aCons (eOp fSub1 (eVar 4) (eVar 5)) (aCons (eVar 6) aNil))) (aCons (eC (.bool true)) aNil))) [6])) aNil))) aNil)))
theorem xb1_law_nk_moral_links (g : Bool) (m : Nat) (a : Env) (st : Store) : b1_law_nk_moral_links g m a st = (sDrop (eM "dict" mUpdate (eVar 2) (aCons (frzF (nCB hDictT (aCons (frzF (nLc (sAny (eSl (eVar 4) (oSome (eOp fAdd (eVar 5) (eC (.int 1)))) oNone)) (gNm 6) tYes' (eTup (aCons (eTup (aCons (eOp fSub1 (eVar 4) (eVar 5)) (aCons (eVar 6) aNil))) (aCons (eC (.bool true)) aNil))) [6])) aNil))) aNil))) a st := rfl
def b0_law_nk_moral_links (g : Bool) (m : Nat) : FS := (sSeq (sAsg (gNm 4) (eOp fAdd (eOp fSub1 (eVar 0) (eVar 3)) (eTup (aCons (eVar 3) aNil))))
    (sFor (sRg1 (aCons (eCB gLen (aCons (eVar 4) aNil)) aNil)) (gNm 5) (b1_law_nk_moral_links g m)))
theorem xb0_law_nk_moral_links (g : Bool) (m : Nat) (a : Env) (st : Store) : b0_law_nk_moral_links g m a st = (sSeq (sAsg (gNm 4) (eOp fAdd (eOp fSub1 (eVar 0) (eVar 3)) (eTup (aCons (eVar 3) aNil))))
    (sFor (sRg1 (aCons (eCB gLen (aCons (eVar 4) aNil)) aNil)) (gNm 5) (b1_law_nk_moral_links g m))) a st := rfl
theorem u_law_nk_moral_links (g : Bool) (m : Nat) : D g "_law_nk_moral_links" (m + 2) = runE (sSeq (sAsg (gNm 2) (thaw (nNew (.d (.t [])))))
    (sSeq (sFor (sAny (eCall (ofN 2 (D g "_law_nk_ancestors" (m + 1))) (aCons (eVar 0) (aCons (eVar 1) aNil)))) (gNm 3) (b0_law_nk_moral_links g (m + 1)))
    (sRet (eCB gTuple (aCons (eCB gSort (aCons (eVar 2) aNil)) aNil))))) ["net", "lot", "found", "v", "family", "at", "other"] := by kernel_rfl
theorem u_law_nk_moral (g : Bool) (m : Nat) : D g "_law_nk_moral" (m + 2) = runE (sSeq (sAsg (gNm 2) (eCall (ofN 2 (D g "_law_nk_moral_links" (m + 1))) (aCons (eVar 0) (aCons (eVar 1) aNil))))
    (sRet (eIf (tOf (eOp fLe (eCB gLen (aCons (eVar 2) aNil)) (eC (.int 400)))) (eTup (aCons (eC (.str "told")) (aCons (eTup (aCons (eCB gLen (aCons (eVar 0) aNil)) (aCons (eVar 2) aNil))) aNil))) (eTup (aCons (eC (.str "TooMany")) (aCons (eCB gLen (aCons (eVar 2) aNil)) aNil)))))) ["net", "lot", "links"] := by kernel_rfl
theorem u_law_nk_lot (g : Bool) (m : Nat) : D g "_law_nk_lot" (m + 2) = runE (sRet (eCB gTuple (aCons (frzF (nLc (sRg1 (aCons (eVar 1) aNil)) (gNm 3) (tOf (eOp fEq (eCall (ofN 2 (D g "_law_take" (m + 1))) (aCons (eVar 0) (aCons (eVar 2) aNil))) (eC (.int 0)))) (eVar 3) [3])) aNil))) ["jar", "many", "part", "v"] := by kernel_rfl
def b0_law_nk_net (g : Bool) (m : Nat) : FS := (sSeq (sAsg (gNm 6) (eTRg (rg2 (eCB gMax (aCons (eC (.int 0)) (aCons (eOp fSub (eVar 2) (eC (.int 4))) aNil))) (eVar 2))))
    (sIf (tOf (eOp fEq (eVar 4) (eC (.int 0))))
      (sDrop (eM "list" mAppend (eVar 5) (aCons (eSl (eVar 6) (oSome (eNeg (eC (.int 1)))) oNone) aNil)))
      (sIf (tOf (eOp fEq (eVar 4) (eC (.int 1))))
        (sDrop (eM "list" mAppend (eVar 5) (aCons (eIf (tOf (eOp fGt (eVar 2) (eC (.int 0)))) (eTup (aCons (eCall (ofN 2 (D g "_law_take" m)) (aCons (eVar 0) (aCons (eVar 2) aNil))) aNil)) (eTup aNil)) aNil)))
        (sIf (tOf (eOp fEq (eVar 4) (eC (.int 2))))
          (sDrop (eM "list" mAppend (eVar 5) (aCons (eCB gTuple (aCons (eCB gSort (aCons (eSl (eCall (ofN 2 (D g "_law_mixed" m)) (aCons (eVar 0) (aCons (frzF (nLRg (rg1 (eVar 2)))) aNil))) oNone (oSome (eCall (ofN 2 (D g "_law_take" m)) (aCons (eVar 0) (aCons (eC (.int 3)) aNil))))) aNil)) aNil)) aNil)))
          (sIf (tOf (eOp fEq (eVar 4) (eC (.int 3))))
            (sDrop (eM "list" mAppend (eVar 5) (aCons (eCB gTuple (aCons (frzF (nLc (sAny (eVar 6)) (gNm 7) (tOf (eOp fEq (eCall (ofN 2 (D g "_law_take" m)) (aCons (eVar 0) (aCons (eC (.int 2)) aNil))) (eC (.int 0)))) (eVar 7) [7])) aNil)) aNil)))
            (sIf (tOf (eOp fEq (eVar 4) (eC (.int 4))))
              (sDrop (eM "list" mAppend (eVar 5) (aCons (eCB gTuple (aCons (eCB gSort (aCons (eSl (eCall (ofN 2 (D g "_law_mixed" m)) (aCons (eVar 0) (aCons (frzF (nLRg (rg1 (eVar 2)))) aNil))) oNone (oSome (eCall (ofN 2 (D g "_law_take" m)) (aCons (eVar 0) (aCons (eOp fAdd (eVar 2) (eC (.int 1))) aNil))))) aNil)) aNil)) aNil)))
              (sIf (tOf (eOp fEq (eVar 4) (eC (.int 5))))
                (sDrop (eM "list" mAppend (eVar 5) (aCons (eIf (tOf (eOp fGe (eVar 2) (eOp fDiv (eVar 3) (eC (.int 2))))) (eCall (ofN 3 (D g "_law_nk_lot" m)) (aCons (eVar 0) (aCons (eOp fDiv (eVar 3) (eC (.int 2))) (aCons (eC (.int 4)) aNil)))) (eTup aNil)) aNil)))
                (sIf (tOf (eOp fEq (eVar 4) (eC (.int 6))))
                  (sDrop (eM "list" mAppend (eVar 5) (aCons (eIf (tOf (eOp fEq (eVar 2) (eOp fSub (eVar 3) (eC (.int 1))))) (eTRg (rg1 (eVar 2))) (eSl (eVar 6) oNone (oSome (eCall (ofN 2 (D g "_law_take" m)) (aCons (eVar 0) (aCons (eC (.int 2)) aNil)))))) aNil)))
                  (sDrop (eM "list" mAppend (eVar 5) (aCons (eCB gTuple (aCons (frzF (nLc (sRg1 (aCons (eVar 2) aNil)) (gNm 7) (tOf (eOp fEq (eCall (ofN 2 (D g "_law_take" m)) (aCons (eVar 0) (aCons (eC (.int 6)) aNil))) (eC (.int 0)))) (eVar 7) [7])) aNil)) aNil)))))))))))
theorem xb0_law_nk_net (g : Bool) (m : Nat) (a : Env) (st : Store) : b0_law_nk_net g m a st = (sSeq (sAsg (gNm 6) (eTRg (rg2 (eCB gMax (aCons (eC (.int 0)) (aCons (eOp fSub (eVar 2) (eC (.int 4))) aNil))) (eVar 2))))
    (sIf (tOf (eOp fEq (eVar 4) (eC (.int 0))))
      (sDrop (eM "list" mAppend (eVar 5) (aCons (eSl (eVar 6) (oSome (eNeg (eC (.int 1)))) oNone) aNil)))
      (sIf (tOf (eOp fEq (eVar 4) (eC (.int 1))))
        (sDrop (eM "list" mAppend (eVar 5) (aCons (eIf (tOf (eOp fGt (eVar 2) (eC (.int 0)))) (eTup (aCons (eCall (ofN 2 (D g "_law_take" m)) (aCons (eVar 0) (aCons (eVar 2) aNil))) aNil)) (eTup aNil)) aNil)))
        (sIf (tOf (eOp fEq (eVar 4) (eC (.int 2))))
          (sDrop (eM "list" mAppend (eVar 5) (aCons (eCB gTuple (aCons (eCB gSort (aCons (eSl (eCall (ofN 2 (D g "_law_mixed" m)) (aCons (eVar 0) (aCons (frzF (nLRg (rg1 (eVar 2)))) aNil))) oNone (oSome (eCall (ofN 2 (D g "_law_take" m)) (aCons (eVar 0) (aCons (eC (.int 3)) aNil))))) aNil)) aNil)) aNil)))
          (sIf (tOf (eOp fEq (eVar 4) (eC (.int 3))))
            (sDrop (eM "list" mAppend (eVar 5) (aCons (eCB gTuple (aCons (frzF (nLc (sAny (eVar 6)) (gNm 7) (tOf (eOp fEq (eCall (ofN 2 (D g "_law_take" m)) (aCons (eVar 0) (aCons (eC (.int 2)) aNil))) (eC (.int 0)))) (eVar 7) [7])) aNil)) aNil)))
            (sIf (tOf (eOp fEq (eVar 4) (eC (.int 4))))
              (sDrop (eM "list" mAppend (eVar 5) (aCons (eCB gTuple (aCons (eCB gSort (aCons (eSl (eCall (ofN 2 (D g "_law_mixed" m)) (aCons (eVar 0) (aCons (frzF (nLRg (rg1 (eVar 2)))) aNil))) oNone (oSome (eCall (ofN 2 (D g "_law_take" m)) (aCons (eVar 0) (aCons (eOp fAdd (eVar 2) (eC (.int 1))) aNil))))) aNil)) aNil)) aNil)))
              (sIf (tOf (eOp fEq (eVar 4) (eC (.int 5))))
                (sDrop (eM "list" mAppend (eVar 5) (aCons (eIf (tOf (eOp fGe (eVar 2) (eOp fDiv (eVar 3) (eC (.int 2))))) (eCall (ofN 3 (D g "_law_nk_lot" m)) (aCons (eVar 0) (aCons (eOp fDiv (eVar 3) (eC (.int 2))) (aCons (eC (.int 4)) aNil)))) (eTup aNil)) aNil)))
                (sIf (tOf (eOp fEq (eVar 4) (eC (.int 6))))
                  (sDrop (eM "list" mAppend (eVar 5) (aCons (eIf (tOf (eOp fEq (eVar 2) (eOp fSub (eVar 3) (eC (.int 1))))) (eTRg (rg1 (eVar 2))) (eSl (eVar 6) oNone (oSome (eCall (ofN 2 (D g "_law_take" m)) (aCons (eVar 0) (aCons (eC (.int 2)) aNil)))))) aNil)))
                  (sDrop (eM "list" mAppend (eVar 5) (aCons (eCB gTuple (aCons (frzF (nLc (sRg1 (aCons (eVar 2) aNil)) (gNm 7) (tOf (eOp fEq (eCall (ofN 2 (D g "_law_take" m)) (aCons (eVar 0) (aCons (eC (.int 6)) aNil))) (eC (.int 0)))) (eVar 7) [7])) aNil)) aNil))))))))))) a st := rfl
theorem u_law_nk_net (g : Bool) (m : Nat) : D g "_law_nk_net" (m + 2) = runE (sSeq (sPar [3, 4, 5] (aCons (eCall (ofN 2 (D g "_law_take" (m + 1))) (aCons (eVar 0) (aCons (eOp fAdd (eVar 1) (eC (.int 1))) aNil))) (aCons (eCall (ofN 2 (D g "_law_take" (m + 1))) (aCons (eVar 0) (aCons (eC (.int 8)) aNil))) (aCons (thaw (nLst aNil)) aNil))))
    (sSeq (sFor (sRg1 (aCons (eVar 3) aNil)) (gNm 2) (b0_law_nk_net g (m + 1)))
    (sRet (eCB gTuple (aCons (eVar 5) aNil))))) ["jar", "most", "v", "many", "form", "found", "near", "u"] := by kernel_rfl
def b0_law_nk_web (g : Bool) (m : Nat) : FS := (sDrop (eM "list" mExtend (eVar 3) (aCons (frzF (nLc (sRg2 (aCons (eOp fAdd (eVar 4) (eC (.int 1))) (aCons (eVar 5) aNil))) (gNm 7) (tAnd' (tOf (eOp fEq (eCall (ofN 2 (D g "_law_take" m)) (aCons (eVar 0) (aCons (eVar 2) aNil))) (eC (.int 0)))) (tOr' (tOf (eOp fLt (eVar 6) (eC (.int 4)))) (tOf (eOp fLt (eVar 7) (eOp fAdd (eVar 4) (eC (.int 4))))))) (eTup (aCons (eVar 4) (aCons (eVar 7) aNil))) [7])) aNil)))
theorem xb0_law_nk_web (g : Bool) (m : Nat) (a : Env) (st : Store) : b0_law_nk_web g m a st = (sDrop (eM "list" mExtend (eVar 3) (aCons (frzF (nLc (sRg2 (aCons (eOp fAdd (eVar 4) (eC (.int 1))) (aCons (eVar 5) aNil))) (gNm 7) (tAnd' (tOf (eOp fEq (eCall (ofN 2 (D g "_law_take" m)) (aCons (eVar 0) (aCons (eVar 2) aNil))) (eC (.int 0)))) (tOr' (tOf (eOp fLt (eVar 6) (eC (.int 4)))) (tOf (eOp fLt (eVar 7) (eOp fAdd (eVar 4) (eC (.int 4))))))) (eTup (aCons (eVar 4) (aCons (eVar 7) aNil))) [7])) aNil))) a st := rfl
theorem u_law_nk_web (g : Bool) (m : Nat) : D g "_law_nk_web" (m + 2) = runE (sSeq (sPar [5, 6] (aCons (eCall (ofN 2 (D g "_law_take" (m + 1))) (aCons (eVar 0) (aCons (eOp fAdd (eVar 1) (eC (.int 1))) aNil))) (aCons (eCall (ofN 2 (D g "_law_take" (m + 1))) (aCons (eVar 0) (aCons (eC (.int 5)) aNil))) aNil)))
    (sSeq (sAsg (gNm 2) (eOp fSub1 (frzF (nLst (aCons (eC (.int 1)) (aCons (eC (.int 2)) (aCons (eC (.int 3)) (aCons (eC (.int 6)) (aCons (eC (.int 12)) aNil))))))) (eVar 6)))
    (sSeq (sAsg (gNm 3) (thaw (nLst aNil)))
    (sSeq (sFor (sRg1 (aCons (eVar 5) aNil)) (gNm 4) (b0_law_nk_web g (m + 1)))
    (sRet (eTup (aCons (eVar 5) (aCons (eCB gTuple (aCons (eSl (eVar 3) oNone (oSome (eC (.int 400)))) aNil)) aNil)))))))) ["jar", "most", "part", "found", "a", "n", "form", "b"] := by kernel_rfl
theorem u_law_nw6_odd (g : Bool) (m : Nat) : D g "_law_nw6_odd" (m + 2) = runE (sSeq (sAsg (gNm 2) (thaw (nLst (aCons (eC .none) (aCons (eC (.bool true)) (aCons (eC (.bool false)) (aCons (eC (.str "0")) (aCons (eTup aNil) (aCons (frzF (nLst aNil)) (aCons (eTup (aCons (eC (.int 0)) aNil)) (aCons (eNeg (eC (.int 1))) (aCons (eC (.int 60)) (aCons (eC (.int 61)) (aCons (eC (.int 40)) (aCons (eOp fPow (eC (.int 10)) (eC (.int 30))) (aCons (eC (.int 1)) aNil))))))))))))))))
    (sSeq (sIf (tOf (eIsi "tuple" (eVar 1)))
      (sAsg (gNm 2) (thaw (nLst (aCons (frzF (nCB hList (aCons (eVar 1) aNil))) (aCons (eSl (eVar 1) oNone (oSome (eNeg (eC (.int 1))))) (aCons (eSl (eVar 1) (oSome (eC (.int 1))) oNone) (aCons (eOp fAdd (eVar 1) (eSl (eVar 1) (oSome (eNeg (eC (.int 1)))) oNone)) (aCons (eRev (eVar 1)) (aCons (eOp fAdd (eVar 1) (eTup (aCons (eC (.int 0)) aNil))) (aCons (eC .none) (aCons (eC (.int 0)) (aCons (eTup (aCons (eVar 1) aNil)) aNil))))))))))))
      (sIf (tOf (eIsi "int" (eVar 1)))
        (sDrop (eM "list" mExtend (eVar 2) (aCons (frzF (nLst (aCons (eOp fAdd (eVar 1) (eC (.int 1))) (aCons (eOp fSub (eVar 1) (eC (.int 1))) (aCons (eOp fAdd (eVar 1) (eC (.int 1))) (aCons (eOp fSub (eVar 1) (eC (.int 1))) (aCons (eC (.int 0)) aNil))))))) aNil)))
        sNil))
    (sRet (eCall (ofN 2 (D g "_law_one" (m + 1))) (aCons (eVar 0) (aCons (eVar 2) aNil)))))) ["jar", "part", "some"] := by kernel_rfl
theorem u_law_nw6_bent (g : Bool) (m : Nat) : D g "_law_nw6_bent" (m + 2) = runE (sSeq (sIf (tOr' (tNot' (tOf (eIsi "tuple" (eVar 1)))) (tOr' (tOf (eOp fEq (eVar 1) (eTup aNil))) (tOf (eOp fEq (eCall (ofN 2 (D g "_law_take" (m + 1))) (aCons (eVar 0) (aCons (eC (.int 6)) aNil))) (eC (.int 0))))))
      (sRet (eCall (ofN 2 (D g "_law_nw6_odd" (m + 1))) (aCons (eVar 0) (aCons (eVar 1) aNil))))
      sNil)
    (sSeq (sAsg (gNm 2) (eCall (ofN 2 (D g "_law_take" (m + 1))) (aCons (eVar 0) (aCons (eCB gLen (aCons (eVar 1) aNil)) aNil))))
    (sSeq (sIf (tAnd' (tOf (eIsi "tuple" (eOp fSub1 (eVar 1) (eVar 2)))) (tOf (eOp fGt (eCall (ofN 2 (D g "_law_take" (m + 1))) (aCons (eVar 0) (aCons (eC (.int 4)) aNil))) (eC (.int 0)))))
      (sRet (eOp fAdd (eOp fAdd (eSl (eVar 1) oNone (oSome (eVar 2))) (eTup (aCons (eCall (ofN 2 (D g "_law_nw6_bent" (m + 1))) (aCons (eVar 0) (aCons (eOp fSub1 (eVar 1) (eVar 2)) aNil))) aNil))) (eSl (eVar 1) (oSome (eOp fAdd (eVar 2) (eC (.int 1)))) oNone)))
      sNil)
    (sSeq (sAsg (gNm 3) (eCall (ofN 2 (D g "_law_take" (m + 1))) (aCons (eVar 0) (aCons (eC (.int 4)) aNil))))
    (sSeq (sIf (tOf (eOp fEq (eVar 3) (eC (.int 0))))
      (sSeq (sAsg (gNm 4) (eCall (ofN 2 (D g "_law_take" (m + 1))) (aCons (eVar 0) (aCons (eCB gLen (aCons (eVar 1) aNil)) aNil))))
      (sRet (eOp fAdd (eOp fAdd (eSl (eVar 1) oNone (oSome (eVar 2))) (eTup (aCons (eOp fSub1 (eVar 1) (eVar 4)) aNil))) (eSl (eVar 1) (oSome (eOp fAdd (eVar 2) (eC (.int 1)))) oNone))))
      sNil)
    (sRet (eOp fAdd (eOp fAdd (eSl (eVar 1) oNone (oSome (eVar 2))) (eTup (aCons (eCall (ofN 2 (D g "_law_nw6_odd" (m + 1))) (aCons (eVar 0) (aCons (eOp fSub1 (eVar 1) (eVar 2)) aNil))) aNil))) (eSl (eVar 1) (oSome (eOp fAdd (eVar 2) (eC (.int 1)))) oNone)))))))) ["jar", "thing", "at", "form", "other"] := by kernel_rfl
def b0_law_nw6_web_right (g : Bool) (m : Nat) : FS := (sSeq (sAsg (gNm 3) (eCall (ofN 1 (D g "_law_nk_web_cause" m)) (aCons (eVar 1) aNil)))
    (sSeq (sAsg (gNm 4) (eIf (tOf (eOp (fIs .none true) (eVar 3) (eC .none))) (eVar 3) (eTup (aCons (eC (.str "told")) (aCons (eVar 1) aNil)))))
    (sSeq (sIf (tNot' (tOf (eCall (ofN 2 (D g "_law_ns_same" m)) (aCons (hrd (eCall (ofN 1 (D false "made_web" m)) (aCons (eVar 1) aNil))) (aCons (eVar 4) aNil)))))
      (sRet (eC (.bool false)))
      sNil)
    (sAsg (gNm 1) (eIf (tOf (eOp (fIs .none false) (eVar 3) (eC .none))) (eCall (ofN 2 (D g "_law_nw6_bent" m)) (aCons (eVar 0) (aCons (eVar 1) aNil))) (eCall (ofN 2 (D g "_law_nk_web" m)) (aCons (eVar 0) (aCons (eC (.int 6)) aNil))))))))
theorem xb0_law_nw6_web_right (g : Bool) (m : Nat) (a : Env) (st : Store) : b0_law_nw6_web_right g m a st = (sSeq (sAsg (gNm 3) (eCall (ofN 1 (D g "_law_nk_web_cause" m)) (aCons (eVar 1) aNil)))
    (sSeq (sAsg (gNm 4) (eIf (tOf (eOp (fIs .none true) (eVar 3) (eC .none))) (eVar 3) (eTup (aCons (eC (.str "told")) (aCons (eVar 1) aNil)))))
    (sSeq (sIf (tNot' (tOf (eCall (ofN 2 (D g "_law_ns_same" m)) (aCons (hrd (eCall (ofN 1 (D false "made_web" m)) (aCons (eVar 1) aNil))) (aCons (eVar 4) aNil)))))
      (sRet (eC (.bool false)))
      sNil)
    (sAsg (gNm 1) (eIf (tOf (eOp (fIs .none false) (eVar 3) (eC .none))) (eCall (ofN 2 (D g "_law_nw6_bent" m)) (aCons (eVar 0) (aCons (eVar 1) aNil))) (eCall (ofN 2 (D g "_law_nk_web" m)) (aCons (eVar 0) (aCons (eC (.int 6)) aNil)))))))) a st := rfl
theorem u_law_nw6_web_right (g : Bool) (m : Nat) : D g "_law_nw6_web_right" (m + 2) = runE (sSeq (sAsg (gNm 1) (eCall (ofN 2 (D g "_law_nk_web" (m + 1))) (aCons (eVar 0) (aCons (eCall (ofN 2 (D g "_law_one" (m + 1))) (aCons (eVar 0) (aCons (frzF (nLst (aCons (eC (.int 3)) (aCons (eC (.int 6)) (aCons (eC (.int 12)) (aCons (eC (.int 60)) aNil)))))) aNil))) aNil))))
    (sSeq (sFor (sRg1 (aCons (eC (.int 7)) aNil)) (gNm 2) (b0_law_nw6_web_right g (m + 1)))
    (sRet (eC (.bool true))))) ["jar", "thing", "go", "wrong", "owed"] := by kernel_rfl
def b0_law_nw6_great_web_right (g : Bool) (m : Nat) : FS := (sDrop (eM "list" mExtend (eVar 7) (aCons (frzF (nLc (sRg2 (aCons (eOp fAdd (eVar 1) (eC (.int 1))) (aCons (eVar 6) aNil))) (gNm 8) tYes' (eTup (aCons (eVar 1) (aCons (eVar 8) aNil))) [8])) aNil)))
theorem xb0_law_nw6_great_web_right (g : Bool) (m : Nat) (a : Env) (st : Store) : b0_law_nw6_great_web_right g m a st = (sDrop (eM "list" mExtend (eVar 7) (aCons (frzF (nLc (sRg2 (aCons (eOp fAdd (eVar 1) (eC (.int 1))) (aCons (eVar 6) aNil))) (gNm 8) tYes' (eTup (aCons (eVar 1) (aCons (eVar 8) aNil))) [8])) aNil))) a st := rfl
theorem u_law_nw6_great_web_right (g : Bool) (m : Nat) : D g "_law_nw6_great_web_right" (m + 2) = runE (sSeq (sPar [6, 7] (aCons (eCall (ofN 2 (D g "_law_one" (m + 1))) (aCons (eVar 0) (aCons (frzF (nLst (aCons (eC (.int 60)) (aCons (eC (.int 60)) (aCons (eC (.int 29)) (aCons (eC (.int 41)) aNil)))))) aNil))) (aCons (thaw (nLst aNil)) aNil)))
    (sSeq (sFor (sRg1 (aCons (eVar 6) aNil)) (gNm 1) (b0_law_nw6_great_web_right g (m + 1)))
    (sSeq (sAsg (gNm 2) (eCB gSort (aCons (eSl (eCall (ofN 2 (D g "_law_mixed" (m + 1))) (aCons (eVar 0) (aCons (eVar 7) aNil))) oNone (oSome (eC (.int 401)))) aNil)))
    (sSeq (sAsg (gNm 3) (eOp fAdd (eSl (eVar 2) oNone (oSome (eC (.int 400)))) (frzF (nLst (aCons (eC .none) aNil)))))
    (sSeq (sAsg (gNm 4) (thaw (nLst (aCons (hrd (eCall (ofN 1 (D false "made_web" (m + 1))) (aCons (eTup (aCons (eVar 6) (aCons (eCB gTuple (aCons (eSl (eVar 2) oNone (oSome (eC (.int 400)))) aNil)) aNil))) aNil))) aNil))))
    (sSeq (sDrop (eM "list" mAppend (eVar 4) (aCons (hrd (eCall (ofN 1 (D false "made_web" (m + 1))) (aCons (eTup (aCons (eVar 6) (aCons (eCB gTuple (aCons (eVar 2) aNil)) aNil))) aNil))) aNil)))
    (sSeq (sDrop (eM "list" mAppend (eVar 4) (aCons (hrd (eCall (ofN 1 (D false "made_web" (m + 1))) (aCons (eTup (aCons (eVar 6) (aCons (eCB gTuple (aCons (eVar 3) aNil)) aNil))) aNil))) aNil)))
    (sSeq (sDrop (eM "list" mAppend (eVar 4) (aCons (hrd (eCall (ofN 1 (D false "made_web" (m + 1))) (aCons (eTup (aCons (eC (.int 61)) (aCons (eC .none) aNil))) aNil))) aNil)))
    (sSeq (sAsg (gNm 5) (frzF (nLst (aCons (eTup (aCons (eC (.str "told")) (aCons (eTup (aCons (eVar 6) (aCons (eCB gTuple (aCons (eSl (eVar 2) oNone (oSome (eC (.int 400)))) aNil)) aNil))) aNil))) (aCons (eTup (aCons (eC (.str "TooMany")) (aCons (eCB gLen (aCons (eVar 2) aNil)) aNil))) (aCons (eTup (aCons (eC (.str "TooMany")) (aCons (eC (.int 401)) aNil))) (aCons (eTup (aCons (eC (.str "BadWeb")) (aCons (eC (.int 0)) aNil))) aNil)))))))
    (sRet (eCall (ofN 2 (D g "_law_ns_same" (m + 1))) (aCons (eVar 4) (aCons (eVar 5) aNil))))))))))))) ["jar", "a", "some", "odd", "answers", "owed", "n", "links", "b"] := by kernel_rfl
def b0_law_nw6_net_right (g : Bool) (m : Nat) : FS := (sSeq (sPar [7, 8] (aCons (eCall (ofN 3 (D g "_law_nk_lot" m)) (aCons (eVar 0) (aCons (eCB gLen (aCons (eVar 1) aNil)) (aCons (eCall (ofN 2 (D g "_law_one" m)) (aCons (eVar 0) (aCons (frzF (nLst (aCons (eC (.int 1)) (aCons (eC (.int 2)) (aCons (eC (.int 4)) (aCons (eC (.int 9)) (aCons (eC (.int 99)) aNil))))))) aNil))) aNil)))) (aCons (eCall (ofN 3 (D g "_law_nk_lot" m)) (aCons (eVar 0) (aCons (eCB gLen (aCons (eVar 1) aNil)) (aCons (eC (.int 5)) aNil)))) aNil)))
    (sSeq (sAsg (gNm 4) (eCB gTuple (aCons (eCB gSort (aCons (frzF (nCB hDictK (aCons (frzF (nLc (sAny (eOp fAdd (eVar 7) (eVar 8))) (gNm 10) tYes' (eTup (aCons (eVar 10) (aCons (eC (.bool true)) aNil))) [10])) aNil))) aNil)) aNil)))
    (sSeq (sAsg (gNm 5) (frzF (nLc (sAny (frzF (nLst (aCons (eVar 7) (aCons (eVar 8) (aCons (eVar 4) aNil)))))) (gNm 9) tYes' (eCall (ofN 2 (D g "_law_nk_ancestors" m)) (aCons (eVar 1) (aCons (eVar 9) aNil))) [9])))
    (sSeq (sAsg (gNm 6) (thaw (nLst (aCons (hrd (eCall (ofN 2 (D false "ancestors_of" m)) (aCons (eVar 1) (aCons (eVar 7) aNil)))) aNil))))
    (sSeq (sDrop (eM "list" mAppend (eVar 6) (aCons (hrd (eCall (ofN 2 (D false "ancestors_of" m)) (aCons (eVar 1) (aCons (eVar 4) aNil)))) aNil)))
    (sSeq (sDrop (eM "list" mAppend (eVar 6) (aCons (hrd (eCall (ofN 2 (D false "ancestors_of" m)) (aCons (eVar 1) (aCons (eOp fSub1 (eVar 5) (eC (.int 0))) aNil)))) aNil)))
    (sSeq (sIf (tNot' (tOf (eCall (ofN 2 (D g "_law_ns_same" m)) (aCons (eVar 6) (aCons (frzF (nLst (aCons (eTup (aCons (eC (.str "told")) (aCons (eOp fSub1 (eVar 5) (eC (.int 0))) aNil))) (aCons (eTup (aCons (eC (.str "told")) (aCons (eOp fSub1 (eVar 5) (eC (.int 2))) aNil))) (aCons (eTup (aCons (eC (.str "told")) (aCons (eOp fSub1 (eVar 5) (eC (.int 0))) aNil))) aNil))))) aNil)))))
      (sRet (eC (.bool false)))
      sNil)
    (sSeq (sIf (tOf (eOp fNe (eOp fSub1 (eVar 5) (eC (.int 2))) (eCB gTuple (aCons (eCB gSort (aCons (frzF (nCB hDictK (aCons (frzF (nLc (sAny (eOp fAdd (eOp fSub1 (eVar 5) (eC (.int 0))) (eOp fSub1 (eVar 5) (eC (.int 1))))) (gNm 10) tYes' (eTup (aCons (eVar 10) (aCons (eC (.bool true)) aNil))) [10])) aNil))) aNil)) aNil))))
      (sRet (eC (.bool false)))
      sNil)
    (sIf (tNot' (tOf (eCall (ofN 3 (D g "_law_nw6_moral_right" m)) (aCons (eVar 1) (aCons (eVar 7) (aCons (eVar 4) aNil))))))
      (sRet (eC (.bool false)))
      sNil)))))))))
theorem xb0_law_nw6_net_right (g : Bool) (m : Nat) (a : Env) (st : Store) : b0_law_nw6_net_right g m a st = (sSeq (sPar [7, 8] (aCons (eCall (ofN 3 (D g "_law_nk_lot" m)) (aCons (eVar 0) (aCons (eCB gLen (aCons (eVar 1) aNil)) (aCons (eCall (ofN 2 (D g "_law_one" m)) (aCons (eVar 0) (aCons (frzF (nLst (aCons (eC (.int 1)) (aCons (eC (.int 2)) (aCons (eC (.int 4)) (aCons (eC (.int 9)) (aCons (eC (.int 99)) aNil))))))) aNil))) aNil)))) (aCons (eCall (ofN 3 (D g "_law_nk_lot" m)) (aCons (eVar 0) (aCons (eCB gLen (aCons (eVar 1) aNil)) (aCons (eC (.int 5)) aNil)))) aNil)))
    (sSeq (sAsg (gNm 4) (eCB gTuple (aCons (eCB gSort (aCons (frzF (nCB hDictK (aCons (frzF (nLc (sAny (eOp fAdd (eVar 7) (eVar 8))) (gNm 10) tYes' (eTup (aCons (eVar 10) (aCons (eC (.bool true)) aNil))) [10])) aNil))) aNil)) aNil)))
    (sSeq (sAsg (gNm 5) (frzF (nLc (sAny (frzF (nLst (aCons (eVar 7) (aCons (eVar 8) (aCons (eVar 4) aNil)))))) (gNm 9) tYes' (eCall (ofN 2 (D g "_law_nk_ancestors" m)) (aCons (eVar 1) (aCons (eVar 9) aNil))) [9])))
    (sSeq (sAsg (gNm 6) (thaw (nLst (aCons (hrd (eCall (ofN 2 (D false "ancestors_of" m)) (aCons (eVar 1) (aCons (eVar 7) aNil)))) aNil))))
    (sSeq (sDrop (eM "list" mAppend (eVar 6) (aCons (hrd (eCall (ofN 2 (D false "ancestors_of" m)) (aCons (eVar 1) (aCons (eVar 4) aNil)))) aNil)))
    (sSeq (sDrop (eM "list" mAppend (eVar 6) (aCons (hrd (eCall (ofN 2 (D false "ancestors_of" m)) (aCons (eVar 1) (aCons (eOp fSub1 (eVar 5) (eC (.int 0))) aNil)))) aNil)))
    (sSeq (sIf (tNot' (tOf (eCall (ofN 2 (D g "_law_ns_same" m)) (aCons (eVar 6) (aCons (frzF (nLst (aCons (eTup (aCons (eC (.str "told")) (aCons (eOp fSub1 (eVar 5) (eC (.int 0))) aNil))) (aCons (eTup (aCons (eC (.str "told")) (aCons (eOp fSub1 (eVar 5) (eC (.int 2))) aNil))) (aCons (eTup (aCons (eC (.str "told")) (aCons (eOp fSub1 (eVar 5) (eC (.int 0))) aNil))) aNil))))) aNil)))))
      (sRet (eC (.bool false)))
      sNil)
    (sSeq (sIf (tOf (eOp fNe (eOp fSub1 (eVar 5) (eC (.int 2))) (eCB gTuple (aCons (eCB gSort (aCons (frzF (nCB hDictK (aCons (frzF (nLc (sAny (eOp fAdd (eOp fSub1 (eVar 5) (eC (.int 0))) (eOp fSub1 (eVar 5) (eC (.int 1))))) (gNm 10) tYes' (eTup (aCons (eVar 10) (aCons (eC (.bool true)) aNil))) [10])) aNil))) aNil)) aNil))))
      (sRet (eC (.bool false)))
      sNil)
    (sIf (tNot' (tOf (eCall (ofN 3 (D g "_law_nw6_moral_right" m)) (aCons (eVar 1) (aCons (eVar 7) (aCons (eVar 4) aNil))))))
      (sRet (eC (.bool false)))
      sNil))))))))) a st := rfl
theorem u_law_nw6_net_right (g : Bool) (m : Nat) : D true "_law_nw6_net_right" (m + 2) = runE (sSeq (sAsg (gNm 2) (eCB gRepr (aCons (eVar 1) aNil)))
    (sSeq (sIf (tNot' (tOf (eCall (ofN 2 (D true "_law_ns_same" (m + 1))) (aCons (hrd (eCall (ofN 1 (D false "made_net" (m + 1))) (aCons (eVar 1) aNil))) (aCons (eTup (aCons (eC (.str "told")) (aCons (eVar 1) aNil))) aNil)))))
      (sRet (eC (.bool false)))
      sNil)
    (sSeq (sFor (sRg1 (aCons (eC (.int 5)) aNil)) (gNm 3) (b0_law_nw6_net_right true (m + 1)))
    (sRet (eOp fEq (eCB gRepr (aCons (eVar 1) aNil)) (eVar 2)))))) ["jar", "net", "was", "go", "joined", "owed", "answers", "one", "other", "lot", "v"] := by kernel_rfl
theorem u_law_nw6_moral_right (g : Bool) (m : Nat) : D g "_law_nw6_moral_right" (m + 2) = runE (sSeq (sPar [6, 7] (aCons (eCall (ofN 2 (D g "_law_nk_moral" (m + 1))) (aCons (eVar 0) (aCons (eVar 1) aNil))) (aCons (eCall (ofN 2 (D g "_law_nk_moral" (m + 1))) (aCons (eVar 0) (aCons (eVar 2) aNil))) aNil)))
    (sSeq (sAsg (gNm 3) (thaw (nLst (aCons (hrd (eCall (ofN 2 (D false "moral_web" (m + 1))) (aCons (eVar 0) (aCons (eVar 1) aNil)))) aNil))))
    (sSeq (sDrop (eM "list" mAppend (eVar 3) (aCons (hrd (eCall (ofN 2 (D false "moral_web" (m + 1))) (aCons (eVar 0) (aCons (eCall (ofN 2 (D false "_law_nk_ancestors" (m + 1))) (aCons (eVar 0) (aCons (eVar 1) aNil))) aNil)))) aNil)))
    (sSeq (sDrop (eM "list" mAppend (eVar 3) (aCons (hrd (eCall (ofN 2 (D false "moral_web" (m + 1))) (aCons (eVar 0) (aCons (eVar 2) aNil)))) aNil)))
    (sSeq (sIf (tNot' (tOf (eCall (ofN 2 (D g "_law_ns_same" (m + 1))) (aCons (eVar 3) (aCons (frzF (nLst (aCons (eVar 6) (aCons (eVar 6) (aCons (eVar 7) aNil))))) aNil)))))
      (sRet (eC (.bool false)))
      sNil)
    (sSeq (sIf (tAnd' (tOf (eOp fEq (eOp fSub1 (eVar 7) (eC (.int 0))) (eC (.str "told")))) (tOf (eOp fNe (frzF (nLc (sAny (eCall (ofN 2 (D g "_law_nk_moral_links" (m + 1))) (aCons (eVar 0) (aCons (eVar 1) aNil)))) (gNm 8) (tOf (eOp fNotIn (eVar 8) (eOp fSub1 (eOp fSub1 (eVar 7) (eC (.int 1))) (eC (.int 1))))) (eVar 8) [8])) (frzF (nLst aNil)))))
      (sRet (eC (.bool false)))
      sNil)
    (sSeq (sIf (tOf (eOp fNe (eOp fSub1 (eVar 6) (eC (.int 0))) (eC (.str "told"))))
      (sRet (eC (.bool true)))
      sNil)
    (sSeq (sIf (tNot' (tOf (eCall (ofN 2 (D g "_law_ns_same" (m + 1))) (aCons (hrd (eCall (ofN 1 (D false "made_web" (m + 1))) (aCons (eOp fSub1 (eVar 6) (eC (.int 1))) aNil))) (aCons (eVar 6) aNil)))))
      (sRet (eC (.bool false)))
      sNil)
    (sSeq (sAsg (gNm 4) (eIf (tOf (eOp fLt (eCB gLen (aCons (eVar 0) aNil)) (eC (.int 40)))) (eOp fAdd (eVar 0) (eTup (aCons (eTRg (rg1 (eCB gLen (aCons (eVar 0) aNil)))) aNil))) (eVar 0)))
    (sSeq (sAsg (gNm 5) (eTup (aCons (eC (.str "told")) (aCons (eTup (aCons (eCB gLen (aCons (eVar 4) aNil)) (aCons (eOp fSub1 (eOp fSub1 (eVar 6) (eC (.int 1))) (eC (.int 1))) aNil))) aNil))))
    (sRet (eCall (ofN 2 (D g "_law_ns_same" (m + 1))) (aCons (hrd (eCall (ofN 2 (D false "moral_web" (m + 1))) (aCons (eVar 4) (aCons (eVar 1) aNil)))) (aCons (eVar 5) aNil)))))))))))))) ["net", "lot", "joined", "answers", "wide", "due", "owed", "more", "link"] := by kernel_rfl
theorem u_law_nw6_refused_right (g : Bool) (m : Nat) : D g "_law_nw6_refused_right" (m + 2) = runE (sSeq (sPar [7, 8] (aCons (eCall (ofN 3 (D g "_law_nk_lot" (m + 1))) (aCons (eVar 0) (aCons (eCB gLen (aCons (eVar 1) aNil)) (aCons (eC (.int 3)) aNil)))) (aCons (eCall (ofN 2 (D g "_law_take" (m + 1))) (aCons (eVar 0) (aCons (eC (.int 3)) aNil))) aNil)))
    (sSeq (sAsg (gNm 2) (eIf (tOf (eOp fLt (eVar 8) (eC (.int 2)))) (eCall (ofN 2 (D g "_law_nw6_bent" (m + 1))) (aCons (eVar 0) (aCons (eVar 1) aNil))) (eVar 1)))
    (sSeq (sAsg (gNm 3) (eIf (tOf (eOp fGt (eVar 8) (eC (.int 0)))) (eCall (ofN 2 (D g "_law_nw6_bent" (m + 1))) (aCons (eVar 0) (aCons (eIf (tOf (eOp fEq (eCall (ofN 2 (D g "_law_take" (m + 1))) (aCons (eVar 0) (aCons (eC (.int 3)) aNil))) (eC (.int 0)))) (eOp fAdd (eVar 7) (eTup (aCons (eCB gLen (aCons (eVar 1) aNil)) aNil))) (eVar 7)) aNil))) (eVar 7)))
    (sSeq (sAsg (gNm 4) (eCall (ofN 1 (D g "_law_nk_net_cause" (m + 1))) (aCons (eVar 2) aNil)))
    (sSeq (sAsg (gNm 5) (eIf (tOf (eOp (fIs .none true) (eVar 4) (eC .none))) (eVar 4) (eTup (aCons (eC (.str "told")) (aCons (eVar 2) aNil)))))
    (sSeq (sIf (tNot' (tOf (eCall (ofN 2 (D g "_law_ns_same" (m + 1))) (aCons (hrd (eCall (ofN 1 (D false "made_net" (m + 1))) (aCons (eVar 2) aNil))) (aCons (eVar 5) aNil)))))
      (sRet (eC (.bool false)))
      sNil)
    (sSeq (sAsg (gNm 4) (eIf (tOf (eOp (fIs .none false) (eVar 4) (eC .none))) (eCall (ofN 2 (D g "_law_nk_lot_cause" (m + 1))) (aCons (eCB gLen (aCons (eVar 2) aNil)) (aCons (eVar 3) aNil))) (eVar 4)))
    (sSeq (sAsg (gNm 6) (thaw (nLst (aCons (hrd (eCall (ofN 2 (D false "ancestors_of" (m + 1))) (aCons (eVar 2) (aCons (eVar 3) aNil)))) aNil))))
    (sSeq (sDrop (eM "list" mAppend (eVar 6) (aCons (hrd (eCall (ofN 2 (D false "moral_web" (m + 1))) (aCons (eVar 2) (aCons (eVar 3) aNil)))) aNil)))
    (sSeq (sIf (tOf (eOp (fIs .none true) (eVar 4) (eC .none)))
      (sRet (eCall (ofN 2 (D g "_law_ns_same" (m + 1))) (aCons (eVar 6) (aCons (eOp fMul (frzF (nLst (aCons (eVar 4) aNil))) (eC (.int 2))) aNil))))
      sNil)
    (sRet (eCall (ofN 2 (D g "_law_ns_same" (m + 1))) (aCons (eVar 6) (aCons (frzF (nLst (aCons (eTup (aCons (eC (.str "told")) (aCons (eCall (ofN 2 (D g "_law_nk_ancestors" (m + 1))) (aCons (eVar 2) (aCons (eVar 3) aNil))) aNil))) (aCons (eCall (ofN 2 (D g "_law_nk_moral" (m + 1))) (aCons (eVar 2) (aCons (eVar 3) aNil))) aNil)))) aNil)))))))))))))) ["jar", "net", "one", "two", "wrong", "due", "answers", "lot", "form"] := by kernel_rfl
theorem u_law_nw6_great_net_right (g : Bool) (m : Nat) : D g "_law_nw6_great_net_right" (m + 2) = runE (sSeq (sAsg (gNm 1) (eCall (ofN 2 (D g "_law_one" (m + 1))) (aCons (eVar 0) (aCons (frzF (nLst (aCons (eC (.int 28)) (aCons (eC (.int 29)) (aCons (eC (.int 30)) (aCons (eC (.int 40)) aNil)))))) aNil))))
    (sSeq (sAsg (gNm 2) (eCB gTuple (aCons (frzF (nLc (sRg1 (aCons (eVar 1) aNil)) (gNm 9) tYes' (eTRg (rg1 (eVar 9))) [9])) aNil)))
    (sSeq (sAsg (gNm 3) (eOp fAdd (eOp fMul (eTup (aCons (eTup aNil) aNil)) (eOp fSub (eVar 1) (eC (.int 1)))) (eTup (aCons (eTRg (rg1 (eOp fSub (eVar 1) (eC (.int 1))))) aNil))))
    (sSeq (sAsg (gNm 4) (eCall (ofN 2 (D g "_law_one" (m + 1))) (aCons (eVar 0) (aCons (frzF (nLst (aCons (eC (.int 22)) (aCons (eC (.int 22)) (aCons (eC (.int 23)) (aCons (eC (.int 24)) aNil)))))) aNil))))
    (sSeq (sAsg (gNm 5) (eOp fAdd (eCB gTuple (aCons (frzF (nLc (sRg1 (aCons (eC (.int 28)) aNil)) (gNm 9) tYes' (eTRg (rg1 (eVar 9))) [9])) aNil)) (eTup (aCons (eTRg (rg1 (eVar 4))) aNil))))
    (sSeq (sAsg (gNm 6) (eIf (tOf (eOp fEq (eVar 4) (eC (.int 22)))) (eTup (aCons (eC (.str "told")) (aCons (eTup (aCons (eC (.int 29)) (aCons (eCall (ofN 2 (D g "_law_nk_moral_links" (m + 1))) (aCons (eVar 5) (aCons (eTup (aCons (eC (.int 27)) (aCons (eC (.int 28)) aNil))) aNil))) aNil))) aNil))) (eTup (aCons (eC (.str "TooMany")) (aCons (eOp fAdd (eC (.int 378)) (eVar 4)) aNil)))))
    (sSeq (sIf (tNot' (tOf (eCall (ofN 2 (D g "_law_ns_same" (m + 1))) (aCons (hrd (eCall (ofN 2 (D false "moral_web" (m + 1))) (aCons (eVar 5) (aCons (eTup (aCons (eC (.int 27)) (aCons (eC (.int 28)) aNil))) aNil)))) (aCons (eVar 6) aNil)))))
      (sRet (eC (.bool false)))
      sNil)
    (sSeq (sAsg (gNm 7) (thaw (nLst (aCons (hrd (eCall (ofN 2 (D false "moral_web" (m + 1))) (aCons (eVar 2) (aCons (eTup (aCons (eOp fSub (eVar 1) (eC (.int 1))) aNil)) aNil)))) aNil))))
    (sSeq (sDrop (eM "list" mAppend (eVar 7) (aCons (hrd (eCall (ofN 2 (D false "moral_web" (m + 1))) (aCons (eVar 3) (aCons (eTup (aCons (eC (.int 0)) (aCons (eOp fSub (eVar 1) (eC (.int 1))) aNil))) aNil)))) aNil)))
    (sSeq (sDrop (eM "list" mAppend (eVar 7) (aCons (hrd (eCall (ofN 2 (D false "moral_web" (m + 1))) (aCons (eVar 3) (aCons (eTup (aCons (eC (.int 0)) (aCons (eOp fSub (eVar 1) (eC (.int 2))) aNil))) aNil)))) aNil)))
    (sSeq (sDrop (eM "list" mAppend (eVar 7) (aCons (hrd (eCall (ofN 1 (D false "made_net" (m + 1))) (aCons (eOp fMul (eTup (aCons (eTup aNil) aNil)) (eC (.int 41))) aNil))) aNil)))
    (sSeq (sDrop (eM "list" mAppend (eVar 7) (aCons (hrd (eCall (ofN 1 (D false "made_net" (m + 1))) (aCons (eOp fMul (eTup (aCons (eTup aNil) aNil)) (eC (.int 40))) aNil))) aNil)))
    (sSeq (sAsg (gNm 8) (frzF (nLst (aCons (eCall (ofN 2 (D g "_law_nk_moral" (m + 1))) (aCons (eVar 2) (aCons (eTup (aCons (eOp fSub (eVar 1) (eC (.int 1))) aNil)) aNil))) (aCons (eCall (ofN 2 (D g "_law_nk_moral" (m + 1))) (aCons (eVar 3) (aCons (eTup (aCons (eC (.int 0)) (aCons (eOp fSub (eVar 1) (eC (.int 1))) aNil))) aNil))) (aCons (eTup (aCons (eC (.str "told")) (aCons (eTup (aCons (eVar 1) (aCons (eTup aNil) aNil))) aNil))) aNil))))))
    (sRet (eCall (ofN 2 (D g "_law_ns_same" (m + 1))) (aCons (eVar 7) (aCons (eOp fAdd (eVar 8) (frzF (nLst (aCons (eTup (aCons (eC (.str "BadNet")) (aCons (eNeg (eC (.int 1))) aNil))) (aCons (eTup (aCons (eC (.str "told")) (aCons (eOp fMul (eTup (aCons (eTup aNil) aNil)) (eC (.int 40))) aNil))) aNil))))) aNil))))))))))))))))) ["jar", "many", "net", "wide", "few", "rim", "due", "answers", "owed", "v"] := by kernel_rfl
theorem u_law_nw6_hand_right (g : Bool) (m : Nat) : D g "_law_nw6_hand_right" (m + 2) = runE (sSeq (sAsg (gNm 0) (eTup (aCons (eTup aNil) (aCons (eTup aNil) (aCons (eTup (aCons (eC (.int 0)) (aCons (eC (.int 1)) aNil))) aNil)))))
    (sSeq (sAsg (gNm 1) (thaw (nLst (aCons (hrd (eTup (aCons (eCall (ofN 2 (D false "ancestors_of" (m + 1))) (aCons (eVar 0) (aCons (eTup (aCons (eC (.int 2)) aNil)) aNil))) (aCons (eCall (ofN 2 (D false "ancestors_of" (m + 1))) (aCons (eVar 0) (aCons (eTup (aCons (eC (.int 1)) aNil)) aNil))) (aCons (eCall (ofN 2 (D false "ancestors_of" (m + 1))) (aCons (eVar 0) (aCons (eTup aNil) aNil))) aNil))))) aNil))))
    (sSeq (sDrop (eM "list" mAppend (eVar 1) (aCons (hrd (eTup (aCons (eCall (ofN 2 (D false "moral_web" (m + 1))) (aCons (eVar 0) (aCons (eTup (aCons (eC (.int 2)) aNil)) aNil))) (aCons (eCall (ofN 2 (D false "moral_web" (m + 1))) (aCons (eVar 0) (aCons (eTup (aCons (eC (.int 0)) (aCons (eC (.int 1)) aNil))) aNil))) aNil)))) aNil)))
    (sSeq (sAsg (gNm 2) (frzF (nLst (aCons (eTup (aCons (eC (.str "told")) (aCons (eTup (aCons (eTup (aCons (eC (.int 0)) (aCons (eC (.int 1)) (aCons (eC (.int 2)) aNil)))) (aCons (eTup (aCons (eC (.int 1)) aNil)) (aCons (eTup aNil) aNil)))) aNil))) (aCons (eTup (aCons (eC (.str "told")) (aCons (eTup (aCons (eTup (aCons (eC (.int 3)) (aCons (eTup (aCons (eTup (aCons (eC (.int 0)) (aCons (eC (.int 1)) aNil))) (aCons (eTup (aCons (eC (.int 0)) (aCons (eC (.int 2)) aNil))) (aCons (eTup (aCons (eC (.int 1)) (aCons (eC (.int 2)) aNil))) aNil)))) aNil))) (aCons (eTup (aCons (eC (.int 3)) (aCons (eTup aNil) aNil))) aNil))) aNil))) aNil)))))
    (sRet (eCall (ofN 2 (D g "_law_ns_same" (m + 1))) (aCons (eVar 1) (aCons (eVar 2) aNil)))))))) ["net", "answers", "owed"] := by kernel_rfl
def b1_law (g : Bool) (m : Nat) : FS := (sIf (tNot' (tOf (eCall (ofN 2 (D g "_law_nw6_refused_right" m)) (aCons (eVar 1) (aCons (eVar 3) aNil)))))
      (sRet (eC (.bool false)))
      sNil)
theorem xb1_law (g : Bool) (m : Nat) (a : Env) (st : Store) : b1_law g m a st = (sIf (tNot' (tOf (eCall (ofN 2 (D g "_law_nw6_refused_right" m)) (aCons (eVar 1) (aCons (eVar 3) aNil)))))
      (sRet (eC (.bool false)))
      sNil) a st := rfl
def b0_law (g : Bool) (m : Nat) : FS := (sSeq (sAsg (gNm 3) (eCall (ofN 2 (D g "_law_nk_net" m)) (aCons (eVar 1) (aCons (eCall (ofN 2 (D g "_law_one" m)) (aCons (eVar 1) (aCons (frzF (nLst (aCons (eC (.int 4)) (aCons (eC (.int 7)) (aCons (eC (.int 12)) (aCons (eC (.int 40)) aNil)))))) aNil))) aNil))))
    (sSeq (sIf (tOr' (tNot' (tOf (eCall (ofN 2 (D g "_law_nw6_net_right" m)) (aCons (eVar 1) (aCons (eVar 3) aNil))))) (tNot' (tOf (eCall (ofN 1 (D g "_law_nw6_web_right" m)) (aCons (eVar 1) aNil)))))
      (sRet (eC (.bool false)))
      sNil)
    (sFor (sRg1 (aCons (eC (.int 6)) aNil)) (gNm 4) (b1_law g m))))
theorem xb0_law (g : Bool) (m : Nat) (a : Env) (st : Store) : b0_law g m a st = (sSeq (sAsg (gNm 3) (eCall (ofN 2 (D g "_law_nk_net" m)) (aCons (eVar 1) (aCons (eCall (ofN 2 (D g "_law_one" m)) (aCons (eVar 1) (aCons (frzF (nLst (aCons (eC (.int 4)) (aCons (eC (.int 7)) (aCons (eC (.int 12)) (aCons (eC (.int 40)) aNil)))))) aNil))) aNil))))
    (sSeq (sIf (tOr' (tNot' (tOf (eCall (ofN 2 (D g "_law_nw6_net_right" m)) (aCons (eVar 1) (aCons (eVar 3) aNil))))) (tNot' (tOf (eCall (ofN 1 (D g "_law_nw6_web_right" m)) (aCons (eVar 1) aNil)))))
      (sRet (eC (.bool false)))
      sNil)
    (sFor (sRg1 (aCons (eC (.int 6)) aNil)) (gNm 4) (b1_law g m)))) a st := rfl
theorem u_law (g : Bool) (m : Nat) : D g "law" (m + 2) = runE (sSeq (sAsg (gNm 1) (thaw (nCall (ofN 1 (DNn g "_law_pool" (m + 1))) (aCons (eVar 0) aNil))))
    (sSeq (sFor (sRg1 (aCons (eC (.int 4)) aNil)) (gNm 2) (b0_law g (m + 1)))
    (sRet (eAnd (eCall (ofN 1 (D g "_law_nw6_great_web_right" (m + 1))) (aCons (eVar 1) aNil)) (eAnd (eCall (ofN 1 (D g "_law_nw6_great_net_right" (m + 1))) (aCons (eVar 1) aNil)) (eCall (ofN 0 (D g "_law_nw6_hand_right" (m + 1))) aNil)))))) ["script", "jar", "go", "net", "turn"] := by kernel_rfl
theorem lawD (m : Nat) : layK.df true (layK.mean true m) (layK.mean false m) "law" = some (.e 1 (D true "law" (m + 1))) := by kernel_rfl
end NL
end
section
set_option Elab.async false
set_option linter.all false
set_option maxRecDepth 100000
set_option maxHeartbeats 1000000
/-! Plain: the operations in use. -/
namespace NL
open PySem PySem.Spec PyProof.Rows L2

theorem up2 {m : Nat} (h : 2 ≤ m) : ∃ k, m = k + 2 := ⟨m - 2, by omega⟩
section
variable {α : Type} (i : Nat) (a : Env) (st : Store) (d : PyData) (n : Nat)
@[simp] theorem lift_some (x : α) : Out.lift (some x) st = .ok x st := rfl
@[simp] theorem lift_none : (Out.lift none st : Out α) = .stuck := rfl
@[simp] theorem a_var : eVar i a st = (match a[i]? with
  | some (some v) => .ok v st
  | _ => .stuck) := rfl
@[simp] theorem a_c : eC d a st = .ok (.d d) st := rfl
@[simp] theorem a_op (f : Store → AV → AV → Option AV) (fa fb : FE) : eOp f fa fb a st = (fa a st).bind fun x s1 => (fb a s1).bind fun y s2 => Out.lift (f s2 x y) s2 := rfl
@[simp] theorem a_neg (f : FE) : eNeg f a st = (f a st).bind fun x s => Out.lift (fNeg x) s := rfl
@[simp] theorem a_tof (f : FE) : tOf f a st = (f a st).bind fun x s => Out.lift (tru x) s := rfl
@[simp] theorem a_chain (f g : Store → AV → AV → Option AV) (fa fb fc : FE) : eChain f g fa fb fc a st = (fa a st).bind fun x s1 => (fb a s1).bind fun y s2 => match (f s2 x y).bind tru with
  | some true => (fc a s2).bind fun z s3 => Out.lift (g s3 y z) s3
  | some false => .ok (.d (.bool false)) s2
  | none => .stuck := rfl
@[simp] theorem a_tand (f g : FT) : tAnd' f g a st = (f a st).bind fun b s => if b = true then g a s else .ok false s := rfl
@[simp] theorem a_tor (f g : FT) : tOr' f g a st = (f a st).bind fun b s => if b = true then .ok true s else g a s := rfl
@[simp] theorem a_tnot (f : FT) : tNot' f a st = (f a st).bind fun b s => .ok (!b) s := rfl
@[simp] theorem a_tyes : tYes' a st = .ok true st := rfl
@[simp] theorem a_and (f g : FE) : eAnd f g a st = (f a st).bind fun x s => match tru x with
  | some true => g a s
  | some false => .ok (.d (.bool false)) s
  | none => .stuck := rfl
@[simp] theorem a_or (f g : FE) : eOr f g a st = (f a st).bind fun x s => match tru x with
  | some true => .ok (.d (.bool true)) s
  | some false => g a s
  | none => .stuck := rfl
@[simp] theorem a_not (f : FE) : eNot f a st = (f a st).bind fun x s => match tru x with
  | some b => .ok (.d (.bool (!b))) s
  | none => .stuck := rfl
@[simp] theorem a_if (c : FT) (f g : FE) : eIf c f g a st = (c a st).bind fun b s => if b = true then f a s else g a s := rfl
@[simp] theorem a_nil : aNil a st = .ok [] st := rfl
@[simp] theorem a_cons (f : FE) (g : FA) : aCons f g a st = (f a st).bind fun x s => (g a s).bind fun xs s2 => .ok (x :: xs) s2 := rfl
@[simp] theorem a_star (f : FE) (g : FA) : aStar f g a st = (f a st).bind fun x s => match sq s x with
  | some ds => (g a s).bind fun ys s2 => .ok (ds.map AV.d ++ ys) s2
  | none => .stuck := rfl
@[simp] theorem a_tup (g : FA) : eTup g a st = (g a st).bind fun xs s => match dats xs with
  | some ds => if ds.length ≤ sizeLine then .ok (.d (.tuple ds)) s else .stuck
  | none => .stuck := rfl
@[simp] theorem a_lst (g : FA) : nLst g a st = (g a st).bind fun xs s => match dats xs with
  | some ds => if ds.length ≤ sizeLine then .ok (.l ds) s else .stuck
  | none => .stuck := rfl
@[simp] theorem dats_nil : dats [] = some [] := rfl
@[simp] theorem dats_cons (r : List AV) : dats (.d d :: r) = (dats r).map (d :: ·) := rfl
@[simp] theorem dats_map (ds : List PyData) : dats (ds.map AV.d) = some ds := by
  induction ds with
  | nil => rfl
  | cons d ds ih => rw [List.map_cons, dats_cons, ih]; rfl
@[simp] theorem dats_app (ds : List PyData) (r : List AV) : dats (ds.map AV.d ++ r) = (dats r).map (ds ++ ·) := by
  induction ds with
  | nil => cases h : dats r <;> simp [h]
  | cons d ds ih => rw [List.map_cons, List.cons_append, dats_cons, ih]; cases h : dats r <;> simp
@[simp] theorem a_onone : oNone a st = .ok none st := rfl
@[simp] theorem a_osome (f : FE) : oSome f a st = (f a st).bind fun x s => Out.lift ((int1 x).map some) s := rfl
@[simp] theorem a_sl (f : FE) (l h : FO) : eSl f l h a st = (f a st).bind fun x s1 => (l a s1).bind fun lo s2 => (h a s2).bind fun hi s3 => Out.lift (fSl s3 x lo hi) s3 := rfl
@[simp] theorem a_rev (f : FE) : eRev f a st = (f a st).bind fun x s => match vw s x with
  | some (.list xs) => .ok (.d (.list xs.reverse)) s
  | some (.tuple xs) => .ok (.d (.tuple xs.reverse)) s
  | _ => .stuck := rfl
@[simp] theorem a_cb (g : Store → List AV → Option AV) (f : FA) : eCB g f a st = (f a st).bind fun xs s => Out.lift (g s xs) s := rfl
@[simp] theorem a_isi (T : String) (f : FE) : eIsi T f a st = (f a st).bind fun x s => match tyS s x with
  | some t => .ok (.d (.bool (isiB t T))) s
  | none => .stuck := rfl
@[simp] theorem a_call (F : DF) (f : FA) : eCall F f a st = (f a st).bind fun xs s => F xs s := rfl
@[simp] theorem a_ncall (F : DN) (f : FA) : nCall F f a st = (f a st).bind fun xs s => F xs s := rfl
@[simp] theorem a_ofn (F : List AV → Store → Out α) (xs : List AV) : ofN n F xs st = if xs.length = n then F xs st else .stuck := rfl
@[simp] theorem a_m (T : String) (m : Store → AV → List AV → Option (AV × Store)) (fo : FE) (f : FA) : eM T m fo f a st = (fo a st).bind fun x s1 => if tyS s1 x = some T then (f a s1).bind fun xs s2 => match m s2 x xs with
    | some (z, s3) => .ok z s3
    | none => .stuck
  else .stuck := rfl
@[simp] theorem a_frz (f : FN) : frzF f a st = (f a st).bind fun c s => .ok c.frz s := rfl
@[simp] theorem a_thaw (f : FN) : thaw f a st = (f a st).bind fun c s => .ok (.r s.length) (s ++ [c]) := rfl
@[simp] theorem a_ncb (g : Store → List AV → Option Cell) (f : FA) : nCB g f a st = (f a st).bind fun xs s => Out.lift (g s xs) s := rfl
@[simp] theorem a_new (c : Cell) : nNew c a st = .ok c st := rfl
@[simp] theorem a_rg1 (f : FE) : rg1 f a st = (f a st).bind fun x s => Out.lift ((int1 x).map fun n => (0, n)) s := rfl
@[simp] theorem a_rg2 (f g : FE) : rg2 f g a st = (f a st).bind fun x s => (g a s).bind fun y s2 => match int1 x, int1 y with
  | some i, some j => .ok (i, j) s2
  | _, _ => .stuck := rfl
theorem a_nlrg (r : Env → Store → Out (Int × Int)) : nLRg r a st = (r a st).bind fun p s => if rgOkB p.1 p.2 = true then .ok (.l (rgD p.1 (p.2 - p.1).toNat)) s else .stuck := rfl
theorem a_etrg (r : Env → Store → Out (Int × Int)) : eTRg r a st = (r a st).bind fun p s => if rgOkB p.1 p.2 = true then .ok (.d (.tuple (rgD p.1 (p.2 - p.1).toNat))) s else .stuck := rfl
@[simp] theorem a_sany (f : FE) : sAny f a st = (f a st).bind fun x s => Out.lift (srcOf s x) s := rfl
@[simp] theorem a_senum (f : FE) : sEnum f a st = (f a st).bind fun x s => match x with
  | .d (.list ds) => .ok (.xs (enA ds)) s
  | .d (.tuple ds) => .ok (.xs (enA ds)) s
  | _ => .stuck := rfl
theorem a_srg1 (g : FA) : sRg1 g a st = (g a st).bind fun xs s => match xs with
  | [.d (.int j)] => if small62 j = true then .ok (.xs (rgA 0 1 j.toNat)) s else .stuck
  | _ => .stuck := rfl
theorem a_srg2 (g : FA) : sRg2 g a st = (g a st).bind fun xs s => match xs with
  | [.d (.int i), .d (.int j)] => if (small62 i && small62 j) = true then .ok (.xs (rgA i 1 (j - i).toNat)) s else .stuck
  | _ => .stuck := rfl
theorem a_srg3 (g : FA) : sRg3 g a st = (g a st).bind fun xs s => match xs with
  | [.d (.int i), .d (.int j), .d (.int k)] => if (small62 i && small62 j && decide (k = -1)) = true then .ok (.xs (rgA i (-1) (i - j).toNat)) s else .stuck
  | _ => .stuck := rfl
@[simp] theorem a_hrd (f : FE) : hrd f a st = heardF "told" exsK pairH (f a st) := rfl
@[simp] theorem g_nm (x : AV) : gNm i x a = some (a.set i (some x)) := rfl
@[simp] theorem g_un (is : List Nat) (ds : List PyData) : gUn is (.d (.tuple ds)) a = if ds.length = is.length then some ((is.zip ds).foldl (fun a p => a.set p.1 (some (.d p.2))) a) else none := rfl
/-! statements -/
@[simp] theorem s_nil : sNil a st = .ok (.nx a) st := rfl
@[simp] theorem s_seq (f g : FS) : sSeq f g a st = (match f a st with
  | .ok (.nx a') s => g a' s
  | o => o) := rfl
@[simp] theorem s_drop (f : FE) : sDrop f a st = (f a st).bind fun _ s => .ok (.nx a) s := rfl
@[simp] theorem s_ret (f : FE) : sRet f a st = (f a st).bind fun v s => .ok (.rt v) s := rfl
@[simp] theorem s_retn : sRetN a st = .ok (.rt (.d .none)) st := rfl
@[simp] theorem s_if (c : FT) (f g : FS) : sIf c f g a st = (c a st).bind fun b s => if b = true then f a s else g a s := rfl
@[simp] theorem s_bk : sBk a st = .ok (.bk a) st := rfl
@[simp] theorem s_ct : sCt a st = .ok (.ct a) st := rfl
@[simp] theorem s_asg (tg : FG) (f : FE) : sAsg tg f a st = (f a st).bind fun v s => match tg v a with
  | some a' => .ok (.nx a') s
  | none => .stuck := rfl
@[simp] theorem s_par (is : List Nat) (g : FA) : sPar is g a st = (g a st).bind fun xs s => match setAll is xs a with
  | some a' => .ok (.nx a') s
  | none => .stuck := rfl
@[simp] theorem set_nil : setAll [] [] a = some a := rfl
@[simp] theorem set_cons (is : List Nat) (x : AV) (xs : List AV) : setAll (i :: is) (x :: xs) a = setAll is xs (a.set i (some x)) := rfl
@[simp] theorem s_putl (fo fi fv : FE) : sPutL fo fi fv a st = (fv a st).bind fun v s1 => (fo a s1).bind fun o s2 => (fi a s2).bind fun i s3 => match putL s3 o i v with
  | some s4 => .ok (.nx a) s4
  | none => .stuck := rfl
@[simp] theorem s_raise (x : Str) (f : FE) : sRaise x f a st = (f a st).bind fun v s => match v with
  | .d d => .exc x d s
  | _ => .stuck := rfl
@[simp] theorem run_e (f : FS) (N : List Str) (xs : List AV) : runE f N xs st = endE st.length (f (startA N xs) st) := rfl
@[simp] theorem end_nx : endE n (.ok (.nx a) st) = .ok (.d .none) (st.take n) := rfl
@[simp] theorem end_d : endE n (.ok (.rt (.d d)) st) = .ok (.d d) (st.take n) := rfl
@[simp] theorem end_c (c : DC) : endE n (.ok (.rt (.c c)) st) = .ok (.c c) (st.take n) := rfl
theorem end_r {l : Nat} (h : ¬ l < n) {c : Cell} (e : st[l]? = some c) : endE n (.ok (.rt (.r l)) st) = .ok c.frz (st.take n) := by
  simp only [endE, if_neg h, e]
@[simp] theorem end_x (x : Str) : endE n (.exc x d st) = .exc x d (st.take n) := rfl
/-! values -/
@[simp] theorem tru_b (b : Bool) : tru (.d (.bool b)) = some b := rfl
@[simp] theorem int1_i (i : Int) : int1 (.d (.int i)) = some i := rfl
@[simp] theorem neg_i (i : Int) : fNeg (.d (.int i)) = some (.d (.int (-i))) := rfl
@[simp] theorem frz_l (xs : List PyData) : (Cell.l xs).frz = .d (.list xs) := rfl
@[simp] theorem frz_d (c : DC) : (Cell.d c).frz = .c c := rfl
@[simp] theorem vw_d : vw st (.d d) = some d := rfl
@[simp] theorem vw_r (l : Nat) : vw st (.r l) = (match st[l]? with
  | some (.l xs) => some (.list xs)
  | _ => none) := rfl
@[simp] theorem add_i (i j : Int) : fAdd st (.d (.int i)) (.d (.int j)) = some (.d (.int (i + j))) := rfl
@[simp] theorem sub_i (i j : Int) : fSub st (.d (.int i)) (.d (.int j)) = some (.d (.int (i - j))) := rfl
theorem toks_i (i : Int) : PySem.W.keyToks (.int i) = [.inl i] := rfl
theorem lt_i (i j : Int) : PySem.W.dataLt (.int i) (.int j) = decide (i < j) := by
  unfold PySem.W.dataLt
  rw [toks_i, toks_i]
  show (decide (i < j) || (!decide (j < i) && false)) = _
  simp
theorem ltc_i (i j : Int) : ltC (.int i) (.int j) = true := rfl
@[simp] theorem flt_i (i j : Int) : fLt st (.d (.int i)) (.d (.int j)) = some (.d (.bool (decide (i < j)))) := by
  simp [fLt, onD, ltc_i, lt_i]
@[simp] theorem fle_i (i j : Int) : fLe st (.d (.int i)) (.d (.int j)) = some (.d (.bool (decide (i ≤ j)))) := by
  simp [fLe, onD, ltc_i, lt_i, ← decide_not, Int.not_lt]
@[simp] theorem fgt_i (i j : Int) : fGt st (.d (.int i)) (.d (.int j)) = some (.d (.bool (decide (j < i)))) := by
  simp [fGt, onD, ltc_i, lt_i]
@[simp] theorem fge_i (i j : Int) : fGe st (.d (.int i)) (.d (.int j)) = some (.d (.bool (decide (j ≤ i)))) := by
  simp [fGe, onD, ltc_i, lt_i, ← decide_not, Int.not_lt]
theorem dep_i (i : Int) : (PyData.int i).depth = 0 := by
  unfold PyData.depth
  rfl
theorem eqv_i (i j : Int) : PyData.eqv (.int i) (.int j) = decide (i = j) := by
  unfold PyData.eqv
  by_cases h : i = j <;> simp [h]
@[simp] theorem feq_i (i j : Int) : fEq st (.d (.int i)) (.d (.int j)) = some (.d (.bool (decide (i = j)))) := by
  simp [fEq, onD, dep_i, eqv_i]
@[simp] theorem fne_i (i j : Int) : fNe st (.d (.int i)) (.d (.int j)) = some (.d (.bool (!decide (i = j)))) := by
  simp [fNe, onD, dep_i, eqv_i]
@[simp] theorem div_i (i j : Int) : fDiv st (.d (.int i)) (.d (.int j)) = (if 0 < j ∧ j.natAbs.log2 < 9000 then some (i / j) else none).map fun k => .d (.int k) := rfl
@[simp] theorem mod_i (i j : Int) : fMod st (.d (.int i)) (.d (.int j)) = (if 0 < j then some (i % j) else none).map fun k => .d (.int k) := rfl
@[simp] theorem is_k (e : PyData) (neg : Bool) (x y : AV) : fIs e neg st x y = some (.d (.bool (if neg then !isB e x else isB e x))) := rfl
@[simp] theorem gint_i (i : Int) : gInt st [.d (.int i)] = some (.d (.int i)) := rfl
@[simp] theorem glen_t (xs : List PyData) : gLen st [.d (.tuple xs)] = some (.d (.int xs.length)) := rfl
@[simp] theorem glen_l (xs : List PyData) : gLen st [.d (.list xs)] = some (.d (.int xs.length)) := rfl
theorem glen_r {l : Nat} {xs : List PyData} (e : st[l]? = some (.l xs)) : gLen st [.r l] = some (.d (.int xs.length)) := by
  show oneOfC gLen1 gLen2 st [.r l] = _
  simp [oneOfC, gLen1, sq, e]
@[simp] theorem gtup_t (xs : List PyData) : gTuple st [.d (.tuple xs)] = some (.d (.tuple xs)) := rfl
@[simp] theorem gtup_l (xs : List PyData) : gTuple st [.d (.list xs)] = some (.d (.tuple xs)) := rfl
theorem gtup_r {l : Nat} {xs : List PyData} (e : st[l]? = some (.l xs)) : gTuple st [.r l] = some (.d (.tuple xs)) := by
  simp [gTuple, sq, e]
@[simp] theorem src_l (xs : List PyData) : srcOf st (.d (.list xs)) = some (.xs (xs.map .d)) := rfl
@[simp] theorem src_t (xs : List PyData) : srcOf st (.d (.tuple xs)) = some (.xs (xs.map .d)) := rfl
@[simp] theorem src_z (ns : List Int) : srcOf st (.z ns) = some (.xs (ns.map fun n => .d (.int n))) := rfl
@[simp] theorem ix_t (xs : List PyData) (i : Int) : fSub1 st (.d (.tuple xs)) (.d (.int i)) = (atI xs i).map .d := by
  show oneOf fIx fIxK st _ _ = _
  simp only [oneOf, fIx, sq, vw]
  cases atI xs i <;> rfl
@[simp] theorem ix_l (xs : List PyData) (i : Int) : fSub1 st (.d (.list xs)) (.d (.int i)) = (atI xs i).map .d := by
  show oneOf fIx fIxK st _ _ = _
  simp only [oneOf, fIx, sq, vw]
  cases atI xs i <;> rfl
theorem ix_r {l : Nat} {xs : List PyData} (e : st[l]? = some (.l xs)) (i : Int) : fSub1 st (.r l) (.d (.int i)) = (atI xs i).map .d := by
  show oneOf fIx fIxK st _ _ = _
  simp only [oneOf, fIx, sq, vw, e, fIxK, dcOf]
  cases atI xs i <;> rfl
theorem at_nat {β : Type} (xs : List β) (k : Nat) : atI xs (k : Int) = xs[k]? := by
  unfold atI ixN
  rw [if_pos (by omega)]
  by_cases h : k < xs.length
  · rw [if_pos (by omega)]; simp
  · rw [if_neg (by omega)]; simp; omega
end
/-! loops over what is known -/
def forL (tg : FG) (body : FS) : List AV → Env → Store → Out Fl
  | [], a, st => .ok (.nx a) st
  | x :: l, a, st => match tg x a with
    | none => .stuck
    | some a' => match body a' st with
      | .ok (.nx a2) s2 => forL tg body l a2 s2
      | .ok (.ct a2) s2 => forL tg body l a2 s2
      | .ok (.bk a2) s2 => .ok (.nx a2) s2
      | .ok (.rt v) s2 => .ok (.rt v) s2
      | .exc n x s2 => .exc n x s2
      | .stuck => .stuck
theorem for_drop {tg : FG} {body : FS} {l : List AV} : ∀ (k i : Nat) (a : Env) (st : Store), i + k = l.length → forGo (.xs l) tg body k i a st = forL tg body (l.drop i) a st
  | 0, i, a, st, h => by
    rw [show l.drop i = [] from List.drop_eq_nil_of_le (by omega)]
    rfl
  | k + 1, i, a, st, h => by
    have hi : i < l.length := by omega
    rw [List.drop_eq_getElem_cons hi]
    have hg : ∀ st, (Src.xs l).at st i = some l[i] := fun st => List.getElem?_eq_getElem hi
    unfold forGo
    rw [hg]
    unfold forL
    have ih := fun a st => for_drop (tg := tg) (body := body) (l := l) k (i + 1) a st (by omega)
    simp only [ih]
    try rfl
theorem for_xs (src : FSrc) (tg : FG) (body : FS) {l : List AV} {a : Env} {st s : Store} (h : src a st = .ok (.xs l) s) : sFor src tg body a st = forL tg body l a s := by
  show (src a st).bind _ = _
  rw [h]
  show forGo (.xs l) tg body l.length 0 a s = _
  rw [for_drop _ _ _ _ (by omega), List.drop_zero]
def lcL (turn : AV → Store → Out (Option PyData)) : List AV → List PyData → Store → Out (List PyData)
  | [], acc, st => .ok acc st
  | x :: l, acc, st => (turn x st).bind fun o st' => match o with
    | none => lcL turn l acc st'
    | some d => if acc.length < sizeLine then lcL turn l (acc ++ [d]) st' else .stuck
theorem lc_drop {turn : AV → Store → Out (Option PyData)} {l : List AV} : ∀ (k i : Nat) (acc : List PyData) (st : Store), i + k = l.length → lcGo (.xs l) turn k i acc st = lcL turn (l.drop i) acc st
  | 0, i, a, st, h => by
    rw [show l.drop i = [] from List.drop_eq_nil_of_le (by omega)]
    rfl
  | k + 1, i, a, st, h => by
    have hi : i < l.length := by omega
    rw [List.drop_eq_getElem_cons hi]
    have hg : ∀ st, (Src.xs l).at st i = some l[i] := fun st => List.getElem?_eq_getElem hi
    unfold lcGo
    rw [hg]
    unfold lcL
    have ih := fun a st => lc_drop (turn := turn) (l := l) k (i + 1) a st (by omega)
    simp only [ih]
    try rfl
theorem lc_xs (src : FSrc) (tg : FG) (tt : FT) (fe : FE) (own : List Nat) {l : List AV} {a : Env} {st s : Store} (h : src a st = .ok (.xs l) s) : nLc src tg tt fe own a st = (lcL (lcTurn tg tt fe own a) l [] s).bind fun xs s2 => .ok (.l xs) s2 := by
  show (src a st).bind _ = _
  rw [h]
  show (lcGo (.xs l) _ l.length 0 [] s).bind _ = _
  rw [lc_drop _ _ _ _ (by omega), List.drop_zero]
def dcL (turn : AV → Store → Out (Option (Key × PyData))) : List AV → List (Key × PyData) → Store → Out (List (Key × PyData))
  | [], acc, st => .ok acc st
  | x :: l, acc, st => (turn x st).bind fun o st' => match o with
    | none => dcL turn l acc st'
    | some d => if acc.length < sizeLine then dcL turn l (putD acc d.1 d.2) st' else .stuck
theorem dc_drop {turn : AV → Store → Out (Option (Key × PyData))} {l : List AV} : ∀ (k i : Nat) (acc : List (Key × PyData)) (st : Store), i + k = l.length → dcGo (.xs l) turn k i acc st = dcL turn (l.drop i) acc st
  | 0, i, a, st, h => by
    rw [show l.drop i = [] from List.drop_eq_nil_of_le (by omega)]
    rfl
  | k + 1, i, a, st, h => by
    have hi : i < l.length := by omega
    rw [List.drop_eq_getElem_cons hi]
    have hg : ∀ st, (Src.xs l).at st i = some l[i] := fun st => List.getElem?_eq_getElem hi
    unfold dcGo
    rw [hg]
    unfold dcL
    have ih := fun a st => dc_drop (turn := turn) (l := l) k (i + 1) a st (by omega)
    simp only [ih]
    try rfl
theorem dc_xs (src : FSrc) (tg : FG) (tt : FT) (fk fv : FE) (own : List Nat) {l : List AV} {a : Env} {st s : Store} (h : src a st = .ok (.xs l) s) : nDc src tg tt fk fv own a st = (dcL (dcTurn tg tt fk fv own a) l [] s).bind fun xs s2 => .ok (.d (.k xs)) s2 := by
  show (src a st).bind _ = _
  rw [h]
  show (dcGo (.xs l) _ l.length 0 [] s).bind _ = _
  rw [dc_drop _ _ _ _ (by omega), List.drop_zero]
def dtL (turn : AV → Store → Out (Option (List Key × PyData))) : List AV → List (List Key × PyData) → Store → Out (List (List Key × PyData))
  | [], acc, st => .ok acc st
  | x :: l, acc, st => (turn x st).bind fun o st' => match o with
    | none => dtL turn l acc st'
    | some d => if acc.length < sizeLine then dtL turn l (putD acc d.1 d.2) st' else .stuck
theorem dt_drop {turn : AV → Store → Out (Option (List Key × PyData))} {l : List AV} : ∀ (k i : Nat) (acc : List (List Key × PyData)) (st : Store), i + k = l.length → dtGo (.xs l) turn k i acc st = dtL turn (l.drop i) acc st
  | 0, i, a, st, h => by
    rw [show l.drop i = [] from List.drop_eq_nil_of_le (by omega)]
    rfl
  | k + 1, i, a, st, h => by
    have hi : i < l.length := by omega
    rw [List.drop_eq_getElem_cons hi]
    have hg : ∀ st, (Src.xs l).at st i = some l[i] := fun st => List.getElem?_eq_getElem hi
    unfold dtGo
    rw [hg]
    unfold dtL
    have ih := fun a st => dt_drop (turn := turn) (l := l) k (i + 1) a st (by omega)
    simp only [ih]
    try rfl
theorem dt_xs (src : FSrc) (tg : FG) (tt : FT) (fk fv : FE) (own : List Nat) {l : List AV} {a : Env} {st s : Store} (h : src a st = .ok (.xs l) s) : nDt src tg tt fk fv own a st = (dtL (dtTurn tg tt fk fv own a) l [] s).bind fun xs s2 => .ok (.d (.t xs)) s2 := by
  show (src a st).bind _ = _
  rw [h]
  show (dtGo (.xs l) _ l.length 0 [] s).bind _ = _
  rw [dt_drop _ _ _ _ (by omega), List.drop_zero]
end NL
end
section
set_option Elab.async false
set_option linter.all false
set_option maxRecDepth 100000
set_option maxHeartbeats 1000000
/-! Plain: numbers, lots. -/
namespace NL
open PySem PySem.Spec PyProof.Rows L2

/-- no dict at the top -/
def noDict : PyData → Bool
  | .dict _ => false
  | _ => true
def wholeB (t : PyData) (lo hi : Int) : Bool := match t with
  | .int i => decide (lo ≤ i) && decide (i ≤ hi)
  | _ => false
theorem s_whole {m : Nat} (h : 2 ≤ m) (g : Bool) (st : Store) (t : PyData) (ht : noDict t = true) (lo hi : Int) : D g "whole" m [.d t, .d (.int lo), .d (.int hi)] st = .ok (.d (.bool (wholeB t lo hi))) st := by
  obtain ⟨k, rfl⟩ := up2 h
  rw [u_whole]
  cases t with
  | int i => by_cases h1 : lo ≤ i <;> simp [startA, tyS, isiB, wholeB, h1]
  | dict _ => cases ht
  | _ => simp [startA, tyS, isiB, wholeB]
theorem s_is_int {m : Nat} (h : 2 ≤ m) (g : Bool) (st : Store) (t : PyData) (ht : noDict t = true) (lo hi : Int) : D g "_law_nk_is_int" m [.d t, .d (.int lo), .d (.int hi)] st = .ok (.d (.bool (wholeB t lo hi))) st := by
  obtain ⟨k, rfl⟩ := up2 h
  rw [u_law_nk_is_int]
  cases t with
  | int i => by_cases h1 : lo ≤ i <;> simp [startA, tyS, isiB, wholeB, h1]
  | dict _ => cases ht
  | _ => simp [startA, tyS, isiB, wholeB]
/-- the first place at which a lot of numbers below n is none; last stands ahead of it -/
def lotBad (n last : Int) : Nat → List PyData → Option Nat
  | _, [] => none
  | i, d :: ds => match d with
    | .int k => if last + 1 ≤ k ∧ k ≤ n - 1 then lotBad n k (i + 1) ds else some i
    | _ => some i
def lotForm (n : Int) (t : PyData) : Option Int := match t with
  | .tuple ds => (lotBad n (-1) 0 ds).map fun i => (i : Int)
  | _ => some (-1)
def optD : Option Int → PyData
  | none => .none
  | some i => .int i
theorem enA_cons (ds : List PyData) : enA ds = ds.mapIdx fun i d => AV.d (.tuple [.int i, d]) := rfl
def enF (i : Nat) (ds : List PyData) : List AV := match ds with
  | [] => []
  | d :: ds => AV.d (.tuple [.int i, d]) :: enF (i + 1) ds
theorem enF_eq : ∀ (ds : List PyData) (i : Nat), enF i ds = ds.mapIdx fun j d => AV.d (.tuple [.int ((i + j : Nat) : Int), d])
  | [], _ => rfl
  | d :: ds, i => by
    rw [List.mapIdx_cons, enF, enF_eq ds (i + 1)]
    simp [Nat.add_comm, Nat.add_left_comm]
theorem enA_eq (ds : List PyData) : enA ds = enF 0 ds := by
  rw [enF_eq, enA]
  simp
theorem lot_loop {m : Nat} (h : 2 ≤ m) (g : Bool) (st : Store) (n : Int) (t : PyData) : ∀ (ds : List PyData) (i : Nat) (last : Int) (x y : Option AV), (∀ d ∈ ds, noDict d = true) →
    match lotBad n last i ds with
      | some j => forL (gUn [3, 4]) (b0_lot_form g m) (enF i ds) [some (.d (.int n)), some (.d t), some (.d (.int last)), x, y] st = .ok (.rt (.d (.int j))) st
      | none => ∃ e, forL (gUn [3, 4]) (b0_lot_form g m) (enF i ds) [some (.d (.int n)), some (.d t), some (.d (.int last)), x, y] st = .ok (.nx e) st
  | [], i, last, x, y, _ => ⟨_, rfl⟩
  | d :: ds, i, last, x, y, hd => by
    have hd1 := hd d (List.mem_cons_self ..)
    have ih := fun i last x y => lot_loop h g st n t ds i last x y fun e he => hd e (List.mem_cons_of_mem _ he)
    unfold enF forL
    simp only [g_un, List.length_cons, List.length_nil]
    simp [xb0_lot_form, s_whole h, hd1]
    cases d with
    | int k =>
      simp only [wholeB, lotBad]
      by_cases hk : last + 1 ≤ k ∧ k ≤ n - 1
      · simp [hk, hk.1, hk.2]
        exact ih (i + 1) k _ _
      · rw [if_neg hk]
        have : (decide (last + 1 ≤ k) && decide (k ≤ n - 1)) = false := by
          rw [← Bool.decide_and]; exact decide_eq_false hk
        simp [this]
    | _ => simp [wholeB, lotBad]
theorem s_lot_form {m : Nat} (h : 3 ≤ m) (g : Bool) (st : Store) (n : Int) (t : PyData) (ht : noDict t = true) (hd : ∀ ds, t = .tuple ds → ∀ d ∈ ds, noDict d = true) : D g "lot_form" m [.d (.int n), .d t] st = .ok (.d (optD (lotForm n t))) st := by
  obtain ⟨k, rfl⟩ := up2 (m := m) (by omega)
  rw [u_lot_form]
  cases t with
  | tuple ds =>
    have hl := fun x y => lot_loop (m := k + 1) (by omega) g st n (.tuple ds) ds 0 (-1) x y (hd ds rfl)
    simp only [run_e, startA, List.map_cons, List.map_nil, List.length_cons, List.length_nil]
    simp [tyS, isiB]
    rw [for_xs _ _ _ (l := enF 0 ds) (s := st) (by simp [enA_eq])]
    simp only [lotForm]
    have hl := hl none none
    simp [List.replicate] at hl ⊢
    cases e : lotBad n (-1) 0 ds with
    | some j => rw [e] at hl; simp only at hl; rw [hl]; simp [optD]
    | none => rw [e] at hl; obtain ⟨z, hl⟩ := hl; rw [hl]; simp [optD]
  | dict _ => cases ht
  | _ => simp [startA, tyS, isiB, lotForm, optD]
theorem s_is_lot {m : Nat} (h : 4 ≤ m) (g : Bool) (st : Store) (n : Int) (t : PyData) (ht : noDict t = true) (hd : ∀ ds, t = .tuple ds → ∀ d ∈ ds, noDict d = true) : D g "is_lot" m [.d t, .d (.int n)] st = .ok (.d (.bool (lotForm n t).isNone)) st := by
  obtain ⟨k, rfl⟩ := up2 (m := m) (by omega)
  rw [u_is_lot]
  simp [startA, s_lot_form (m := k + 1) (by omega) g st n t ht hd]
  cases lotForm n t <;> rfl
theorem s_asked_lot {m : Nat} (h : 4 ≤ m) (g : Bool) (st : Store) (n : Int) (t : PyData) (ht : noDict t = true) (hd : ∀ ds, t = .tuple ds → ∀ d ∈ ds, noDict d = true) : D g "asked_lot" m [.d (.int n), .d t] st = match lotForm n t with
    | none => .ok (.d t) st
    | some i => .exc "BadLot" (.int i) st := by
  obtain ⟨k, rfl⟩ := up2 (m := m) (by omega)
  rw [u_asked_lot]
  simp [startA, s_lot_form (m := k + 1) (by omega) g st n t ht hd, List.replicate]
  cases lotForm n t <;> simp [optD, isB]
/-- numbers from i on -/
def rgF (i : Nat) : Nat → List AV
  | 0 => []
  | n + 1 => .d (.int (i : Int)) :: rgF (i + 1) n
theorem rgF_eq : ∀ (n i : Nat), rgF i n = (List.range n).map fun (j : Nat) => AV.d (.int ((i + j : Nat) : Int))
  | 0, i => rfl
  | n + 1, i => by
    rw [rgF, rgF_eq n (i + 1), List.range_succ_eq_map, List.map_cons, List.map_map]
    congr 1
    apply List.map_congr_left
    intro a _
    simp
    omega
theorem rgA_eq (n : Nat) : rgA 0 1 n = rgF 0 n := by
  rw [rgF_eq, rgA]
  simp
theorem rgA_eq2 (i n : Nat) : rgA (i : Int) 1 n = rgF i n := by
  rw [rgF_eq, rgA]
  apply List.map_congr_left
  intro a _
  simp
def causeD : Option Int → PyData
  | none => .none
  | some i => .tuple [.str "BadLot", .int i]
theorem at_mid {β : Type} (xs ys : List β) (y : β) : atI (xs ++ y :: ys) (xs.length : Int) = some y := by
  rw [at_nat]
  simp
theorem at_pred {β : Type} (xs ys : List β) (x : β) (h : xs.getLast? = some x) : atI (xs ++ ys) ((xs.length : Int) - 1) = some x := by
  cases xs with
  | nil => cases h
  | cons a l =>
    rw [show (((a :: l).length : Nat) : Int) - 1 = (l.length : Nat) by simp, at_nat, List.getElem?_append_left (by simp)]
    rw [List.getLast?_eq_getElem?] at h
    simpa using h
theorem small_of {i : Int} (h1 : -16777216 ≤ i) (h2 : i ≤ 16777216) : small62 i = true := by
  unfold small62
  rw [ltB_ok (by omega), ltB_ok (by omega)]
  rfl
theorem srg1_ok {f : FA} {a : Env} {st s : Store} {n : Nat} (h : f a st = .ok [.d (.int (n : Int))] s) (hn : n ≤ 16777216) : sRg1 f a st = .ok (.xs (rgF 0 n)) s := by
  rw [a_srg1, h, Out.bind_ok]
  show (if small62 (n : Int) = true then _ else _) = _
  rw [if_pos (small_of (by omega) (by omega)), Int.toNat_natCast, rgA_eq]
theorem srg2_ok {f : FA} {a : Env} {st s : Store} {i j : Nat} (h : f a st = .ok [.d (.int (i : Int)), .d (.int (j : Int))] s) (hi : i ≤ 16777216) (hj : j ≤ 16777216) : sRg2 f a st = .ok (.xs (rgF i (j - i))) s := by
  rw [a_srg2, h, Out.bind_ok]
  show (if (small62 (i : Int) && small62 (j : Int)) = true then _ else _) = _
  rw [if_pos (by rw [small_of (by omega) (by omega), small_of (by omega) (by omega)]; rfl), show (((j : Int) - (i : Int)).toNat) = j - i by omega, rgA_eq2]
theorem srg3_ok {f : FA} {a : Env} {st s : Store} {i j : Int} (h : f a st = .ok [.d (.int i), .d (.int j), .d (.int (-1))] s) (hi : -1 ≤ i ∧ i ≤ 16777216) (hj : -1 ≤ j ∧ j ≤ 16777216) : sRg3 f a st = .ok (.xs (rgA i (-1) (i - j).toNat)) s := by
  have key : ∀ k : Int, -1 ≤ k ∧ k ≤ 16777216 → small62 k = true := fun k hk => small_of (by omega) hk.2
  rw [a_srg3, h, Out.bind_ok]
  show (if (small62 i && small62 j && decide ((-1 : Int) = -1)) = true then _ else _) = _
  rw [if_pos (by rw [key i hi, key j hj]; rfl)]
theorem rgok {i j : Nat} (hi : i ≤ 16777216) (hj : j ≤ 16777216) : rgOkB (i : Int) (j : Int) = true := by
  unfold rgOkB
  rw [small_of (by omega) (by omega), small_of (by omega) (by omega), Nat.ble_eq_true_of_le (by omega)]
  rfl
theorem etrg_ok {r : Env → Store → Out (Int × Int)} {a : Env} {st s : Store} {i j : Nat} (h : r a st = .ok ((i : Int), (j : Int)) s) (hi : i ≤ 16777216) (hj : j ≤ 16777216) : eTRg r a st = .ok (.d (.tuple (rgD i (j - i)))) s := by
  rw [a_etrg, h, Out.bind_ok]
  show (if rgOkB (i : Int) (j : Int) = true then _ else _) = _
  rw [if_pos (rgok hi hj), show (((j : Int) - (i : Int)).toNat) = j - i by omega]
theorem nlrg_ok {r : Env → Store → Out (Int × Int)} {a : Env} {st s : Store} {i j : Nat} (h : r a st = .ok ((i : Int), (j : Int)) s) (hi : i ≤ 16777216) (hj : j ≤ 16777216) : nLRg r a st = .ok (.l (rgD i (j - i))) s := by
  rw [a_nlrg, h, Out.bind_ok]
  show (if rgOkB (i : Int) (j : Int) = true then _ else _) = _
  rw [if_pos (rgok hi hj), show (((j : Int) - (i : Int)).toNat) = j - i by omega]
theorem two_size : (2 : Nat) ≤ sizeLine := by rw [sizeLine_eq]; omega
theorem cause_loop {m : Nat} (h : 2 ≤ m) (g : Bool) (st : Store) (n : Int) : ∀ (ds pre : List PyData) (last : Int) (x : Option AV), (∀ d ∈ ds, noDict d = true) → (pre = [] ∧ last = -1 ∨ pre.getLast? = some (.int last) ∧ 0 ≤ last) →
    match lotBad n last pre.length ds with
      | some j => forL (gNm 2) (b0_law_nk_lot_cause g m) (rgF pre.length ds.length) [some (.d (.int n)), some (.d (.tuple (pre ++ ds))), x] st = .ok (.rt (.d (.tuple [.str "BadLot", .int j]))) st
      | none => ∃ e, forL (gNm 2) (b0_law_nk_lot_cause g m) (rgF pre.length ds.length) [some (.d (.int n)), some (.d (.tuple (pre ++ ds))), x] st = .ok (.nx e) st
  | [], pre, last, x, _, _ => ⟨_, rfl⟩
  | d :: ds, pre, last, x, hd, hp => by
    have hd1 := hd d (List.mem_cons_self ..)
    have ih := fun last x => cause_loop h g st n ds (pre ++ [d]) last x fun e he => hd e (List.mem_cons_of_mem _ he)
    rw [List.length_cons, rgF]
    unfold forL
    have e1 := at_mid pre ds d
    simp [xb0_law_nk_lot_cause, e1, s_is_int h, hd1]
    cases d with
    | int k =>
      simp only [wholeB, lotBad]
      by_cases h0 : 0 ≤ k ∧ k ≤ n - 1
      · simp [h0.1, h0.2]
        rcases hp with ⟨rfl, rfl⟩ | ⟨hl, hn⟩
        · simp [h0.1, h0.2]
          simpa using ih k _ (.inr ⟨by simp, h0.1⟩)
        · have hpos : 0 < pre.length := by
            cases pre with
            | nil => cases hl
            | cons _ _ => simp
          simp [hpos, at_pred pre (.int k :: ds) _ hl]
          by_cases hk : last + 1 ≤ k
          · simp [hk, show ¬ k ≤ last by omega, h0.2]
            simpa using ih k _ (.inr ⟨by simp, h0.1⟩)
          · simp [hk, show k ≤ last by omega, two_size]
      · rw [if_neg (by
          rcases hp with ⟨rfl, rfl⟩ | ⟨hl, hn⟩ <;> omega)]
        have : (decide (0 ≤ k) && decide (k ≤ n - 1)) = false := by
          rw [← Bool.decide_and]; exact decide_eq_false h0
        simp [this, two_size]
    | _ => simp [wholeB, lotBad, two_size]
theorem s_lot_cause {m : Nat} (h : 3 ≤ m) (g : Bool) (st : Store) (n : Int) (t : PyData) (ht : noDict t = true) (hd : ∀ ds, t = .tuple ds → (∀ d ∈ ds, noDict d = true) ∧ ds.length ≤ 16777216) : D g "_law_nk_lot_cause" m [.d (.int n), .d t] st = .ok (.d (causeD (lotForm n t))) st := by
  obtain ⟨k, rfl⟩ := up2 (m := m) (by omega)
  rw [u_law_nk_lot_cause]
  cases t with
  | tuple ds =>
    have hl := cause_loop (m := k + 1) (by omega) g st n ds [] (-1) none (hd ds rfl).1 (.inl ⟨rfl, rfl⟩)
    simp [startA, tyS, isiB]
    rw [for_xs _ _ _ (srg1_ok (s := st) (n := ds.length) ?h1 (hd ds rfl).2)]
    case h1 => simp
    simp only [lotForm]
    simp [List.replicate] at hl ⊢
    cases e : lotBad n (-1) 0 ds with
    | some j => rw [e] at hl; simp only at hl; rw [hl]; simp [causeD]
    | none => rw [e] at hl; obtain ⟨z, hl⟩ := hl; rw [hl]; simp [causeD]
  | dict _ => cases ht
  | _ => simp [startA, tyS, isiB, lotForm, causeD, two_size]
end NL
end
section
set_option Elab.async false
set_option linter.all false
set_option maxRecDepth 100000
set_option maxHeartbeats 1000000
/-! Plain: links, webs, nets. -/
namespace NL
open PySem PySem.Spec PyProof.Rows L2

/-! comprehensions that leave the store -/
theorem size_lit : sizeLine = 16777216 := sizeLine_eq
theorem lcL_fm {turn : AV → Store → Out (Option PyData)} {F : AV → Option PyData} {st : Store} : ∀ (l : List AV) (acc : List PyData), (∀ x ∈ l, turn x st = .ok (F x) st) → acc.length + l.length ≤ 16777216 → lcL turn l acc st = .ok (acc ++ l.filterMap F) st
  | [], acc, _, _ => by simp [lcL]
  | x :: l, acc, h, hl => by
    have h1 := h x (List.mem_cons_self ..)
    have ih := fun acc => lcL_fm (F := F) l acc fun y hy => h y (List.mem_cons_of_mem _ hy)
    rw [List.length_cons] at hl
    unfold lcL
    rw [h1, Out.bind_ok]
    cases e : F x with
    | none => simp only [List.filterMap_cons, e]; exact ih acc (by omega)
    | some d =>
      simp only [List.filterMap_cons, e]
      rw [if_pos (by rw [size_lit]; omega), ih _ (by rw [List.length_append]; simp; omega)]
      simp
theorem nlc_fm {src : FSrc} {tg : FG} {tt : FT} {fe : FE} {own : List Nat} {l : List AV} {a : Env} {st : Store} (F : AV → Option PyData) (hs : src a st = .ok (.xs l) st) (h : ∀ x ∈ l, lcTurn tg tt fe own a x st = .ok (F x) st) (hl : l.length ≤ 16777216) :
    nLc src tg tt fe own a st = .ok (.l (l.filterMap F)) st := by
  rw [lc_xs _ _ _ _ _ hs, lcL_fm l [] h (by simpa using hl)]
  simp
/-! pairs -/
def ltP (p q : Int × Int) : Bool := decide (p.1 < q.1 ∨ p.1 = q.1 ∧ p.2 < q.2)
def pairD (p : Int × Int) : PyData := .tuple [.int p.1, .int p.2]
theorem lt_pair (p q : Int × Int) : PySem.W.dataLt (pairD p) (pairD q) = ltP p q := by
  obtain ⟨a, b⟩ := p
  obtain ⟨c, d⟩ := q
  unfold PySem.W.dataLt pairD ltP
  simp only [PySem.W.keyToks, PySem.W.keyToksAll, List.append_nil, List.cons_append, List.nil_append]
  simp only [lex_cons, PyProof.Rows.lexLt, PyProof.Rows.itemOrd, PyProof.Rows.itemLt]
  by_cases h1 : a < c
  · simp [h1]
  · by_cases h2 : c < a
    · simp [h1, h2]; omega
    · have h3 : a = c := by omega
      subst h3
      by_cases h4 : b < d
      · simp [h4]
      · simp [h4]
theorem ltc_pair (p q : Int × Int) : ltC (pairD p) (pairD q) = true := by
  simp [ltC, pairD, PySem.W.alike, PySem.W.alikeAll, notNone, PyData.depth, PyData.depthAll]
theorem fle_pair (st : Store) (p q : Int × Int) : fLe st (.d (pairD p)) (.d (pairD q)) = some (.d (.bool (!ltP q p))) := by
  simp [fLe, onD, ltc_pair, lt_pair]
theorem flt_pair (st : Store) (p q : Int × Int) : fLt st (.d (pairD p)) (.d (pairD q)) = some (.d (.bool (ltP p q))) := by
  simp [fLt, onD, ltc_pair, lt_pair]
/-- a link of a web of n fields -/
def linkP (n : Int) : PyData → Option (Int × Int)
  | .tuple [.int i, .int j] => if 0 ≤ i ∧ i ≤ n - 1 ∧ i + 1 ≤ j ∧ j ≤ n - 1 then some (i, j) else none
  | _ => none
theorem linkP_eq {n : Int} {t : PyData} {p : Int × Int} (h : linkP n t = some p) : t = pairD p ∧ 0 ≤ p.1 ∧ p.1 < p.2 ∧ p.2 ≤ n - 1 := by
  unfold linkP at h
  split at h
  · split at h
    · cases h
      rename_i q
      exact ⟨rfl, q.1, by simp; omega, q.2.2.2⟩
    · cases h
  · cases h
theorem at2_0 {β : Type} (a b : β) : atI [a, b] 0 = some a := rfl
theorem at2_1 {β : Type} (a b : β) : atI [a, b] 1 = some b := rfl
theorem s_is_link {m : Nat} (h : 3 ≤ m) (g : Bool) (st : Store) (n : Int) (t : PyData) (ht : noDict t = true) (hd : ∀ ds, t = .tuple ds → ∀ d ∈ ds, noDict d = true) : D g "is_link" m [.d (.int n), .d t] st = .ok (.d (.bool (linkP n t).isSome)) st := by
  obtain ⟨k, rfl⟩ := up2 (m := m) (by omega)
  rw [u_is_link]
  cases t with
  | tuple ds =>
    have hd := hd ds rfl
    match ds, hd with
    | [], _ => simp [startA, tyS, isiB, linkP]
    | [_], _ => simp [startA, tyS, isiB, linkP]
    | [a, b], hd =>
      have h1 := hd a (by simp)
      have h2 := hd b (by simp)
      have w := fun st t ht => s_whole (m := k + 1) (by omega) g st t ht
      cases a with
      | int i =>
        by_cases hi : 0 ≤ i ∧ i ≤ n - 1
        · cases b with
          | int j => 
            by_cases hj : i + 1 ≤ j ∧ j ≤ n - 1
            · simp [startA, tyS, isiB, linkP, at2_0, at2_1, w, h1, h2, wholeB, hi.1, hi.2, hj.1, hj.2]
            · simp [startA, tyS, isiB, linkP, at2_0, at2_1, w, h1, h2, wholeB, hi.1, hi.2]
              rw [← Bool.decide_and, decide_eq_false hj, if_neg hj]; rfl
          | dict _ => cases h2
          | _ => simp [startA, tyS, isiB, linkP, at2_0, at2_1, w, h1, h2, wholeB, hi.1, hi.2]
        · have : (decide (0 ≤ i) && decide (i ≤ n - 1)) = false := by
            rw [← Bool.decide_and]; exact decide_eq_false hi
          simp [startA, tyS, isiB, at2_0, at2_1, w, h1, h2, wholeB, this]
          cases b <;> simp [linkP]
          omega
      | dict _ => cases h1
      | _ => simp [startA, tyS, isiB, at2_0, at2_1, w, h1, h2, wholeB, linkP]
    | a :: b :: c :: r, _ =>
      have e : ¬ ((r.length : Int) + 1 + 1 + 1 = 2) := by omega
      simp [startA, tyS, isiB, linkP, e]
  | dict _ => cases ht
  | _ => simp [startA, tyS, isiB, linkP]
end NL
end
section
set_option Elab.async false
set_option linter.all false
set_option maxRecDepth 100000
set_option maxHeartbeats 1000000
/-! Plain: webs, nets. -/
namespace NL
open PySem PySem.Spec PyProof.Rows L2

theorem s_law_is_link {m : Nat} (h : 3 ≤ m) (g : Bool) (st : Store) (n : Int) (t : PyData) (ht : noDict t = true) (hd : ∀ ds, t = .tuple ds → ∀ d ∈ ds, noDict d = true) : D g "_law_nk_is_link" m [.d (.int n), .d t] st = .ok (.d (.bool (linkP n t).isSome)) st := by
  obtain ⟨k, rfl⟩ := up2 (m := m) (by omega)
  rw [u_law_nk_is_link]
  cases t with
  | tuple ds =>
    have hd := hd ds rfl
    match ds, hd with
    | [], _ => simp [startA, tyS, isiB, linkP]
    | [_], _ => simp [startA, tyS, isiB, linkP]
    | [a, b], hd =>
      have h1 := hd a (by simp)
      have h2 := hd b (by simp)
      have w := fun st t ht => s_is_int (m := k + 1) (by omega) g st t ht
      cases a with
      | int i =>
        by_cases hi : 0 ≤ i ∧ i ≤ n - 1
        · cases b with
          | int j => 
            by_cases hj : i + 1 ≤ j ∧ j ≤ n - 1
            · simp [startA, tyS, isiB, linkP, at2_0, at2_1, w, h1, h2, wholeB, hi.1, hi.2, hj.1, hj.2]
            · simp [startA, tyS, isiB, linkP, at2_0, at2_1, w, h1, h2, wholeB, hi.1, hi.2]
              rw [← Bool.decide_and, decide_eq_false hj, if_neg hj]; rfl
          | dict _ => cases h2
          | _ => simp [startA, tyS, isiB, linkP, at2_0, at2_1, w, h1, h2, wholeB, hi.1, hi.2]
        · have : (decide (0 ≤ i) && decide (i ≤ n - 1)) = false := by
            rw [← Bool.decide_and]; exact decide_eq_false hi
          simp [startA, tyS, isiB, at2_0, at2_1, w, h1, h2, wholeB, this]
          cases b <;> simp [linkP]
          omega
      | dict _ => cases h1
      | _ => simp [startA, tyS, isiB, at2_0, at2_1, w, h1, h2, wholeB, linkP]
    | a :: b :: c :: r, _ =>
      have e : ¬ ((r.length : Int) + 1 + 1 + 1 = 2) := by omega
      simp [startA, tyS, isiB, linkP, e]
  | dict _ => cases ht
  | _ => simp [startA, tyS, isiB, linkP]
/-- the first place at which links are none; prev stands ahead of it -/
def linksBad (n : Int) : Option (Int × Int) → Nat → List PyData → Option Nat
  | _, _, [] => none
  | prev, i, d :: ds => match linkP n d with
    | none => some i
    | some q => match prev with
      | none => linksBad n (some q) (i + 1) ds
      | some p => if ltP p q = true then linksBad n (some q) (i + 1) ds else some i
def webForm : PyData → Option (Str × PyData)
  | .tuple [n, links] => match n with
    | .int k => if 0 ≤ k ∧ k ≤ 60 then match links with
      | .tuple ds => if 400 < ds.length then some ("TooMany", .int ds.length) else (linksBad k none 0 ds).map fun i => ("BadWeb", .tuple [.int 1, .int i])
      | _ => some ("BadWeb", .int 1)
      else some ("BadWeb", .int 0)
    | _ => some ("BadWeb", .int 0)
  | _ => some ("BadWeb", .int (-1))
/-- data without dicts, to three levels down -/
def nd3 (t : PyData) : Prop := noDict t = true ∧ ∀ ds, (t = .tuple ds ∨ t = .list ds) → ∀ d ∈ ds, noDict d = true ∧ ∀ es, (d = .tuple es ∨ d = .list es) → ∀ e ∈ es, noDict e = true ∧ ∀ fs, (e = .tuple fs ∨ e = .list fs) → ∀ f ∈ fs, noDict f = true
def prevOf : List PyData → Option (Int × Int)
  | [] => none
  | d :: ds => match d with
    | .tuple [.int a, .int b] => some (a, b)
    | _ => none
theorem web_loop {m : Nat} (h : 3 ≤ m) (g : Bool) (st : Store) (n : Int) (t : PyData) : ∀ (ds pre : List PyData) (prev : Option (Int × Int)) (x y : Option AV), (∀ d ∈ ds, noDict d = true ∧ ∀ es, d = .tuple es → ∀ e ∈ es, noDict e = true) → (match prev with
      | none => pre = []
      | some p => pre.getLast? = some (pairD p)) →
    match linksBad n prev pre.length ds with
      | some j => forL (gUn [3, 4]) (b0_made_web g m) (enF pre.length ds) [some (.d t), some (.d (.int n)), some (.d (.tuple (pre ++ ds))), x, y] st = .exc "BadWeb" (.tuple [.int 1, .int j]) st
      | none => ∃ x' y', forL (gUn [3, 4]) (b0_made_web g m) (enF pre.length ds) [some (.d t), some (.d (.int n)), some (.d (.tuple (pre ++ ds))), x, y] st = .ok (.nx [some (.d t), some (.d (.int n)), some (.d (.tuple (pre ++ ds))), x', y']) st
  | [], pre, prev, x, y, _, _ => ⟨_, _, rfl⟩
  | d :: ds, pre, prev, x, y, hd, hp => by
    have hd1 := hd d (List.mem_cons_self ..)
    have ih := fun prev x y => web_loop h g st n t ds (pre ++ [d]) prev x y fun e he => hd e (List.mem_cons_of_mem _ he)
    unfold enF forL
    simp only [g_un, List.length_cons, List.length_nil]
    simp [xb0_made_web, s_is_link h g st n d hd1.1 hd1.2]
    unfold linksBad
    cases e : linkP n d with
    | none => simp [two_size]
    | some q =>
      obtain ⟨rfl, _⟩ := linkP_eq e
      cases prev with
      | none =>
        have hp : pre = [] := hp
        subst hp
        simp
        simpa using ih (some q) _ _ (by simp)
      | some p =>
        have hp : pre.getLast? = some (pairD p) := hp
        have hpos : 0 < pre.length := by
          cases pre with
          | nil => cases hp
          | cons _ _ => simp
        simp [hpos, at_pred pre (pairD q :: ds) _ hp, fle_pair]
        by_cases hl : ltP p q = true
        · simp [hl]
          simpa using ih (some q) _ _ (by simp)
        · simp [hl, two_size]
theorem links_tup {n : Int} : ∀ (ds : List PyData) (prev : Option (Int × Int)) (i : Nat), linksBad n prev i ds = none → ∀ d ∈ ds, ∃ p, d = pairD p
  | [], _, _, _ => fun d hd => by cases hd
  | d :: ds, prev, i, h => by
    unfold linksBad at h
    split at h
    · cases h
    · rename_i q e
      obtain ⟨rfl, _⟩ := linkP_eq e
      intro z hz
      rcases List.mem_cons.mp hz with rfl | hz
      · exact ⟨_, rfl⟩
      · split at h
        · exact links_tup ds _ _ h z hz
        · split at h
          · exact links_tup ds _ _ h z hz
          · cases h
theorem fm_d (ds : List PyData) : (ds.map AV.d).filterMap (fun x => match x with
    | .d d => some d
    | _ => none) = ds := by
  induction ds with
  | nil => rfl
  | cons d ds ih => simp [ih]
theorem s_made_web {m : Nat} (h : 4 ≤ m) (g : Bool) (st : Store) (t : PyData) (ht : nd3 t) : D g "made_web" m [.d t] st = match webForm t with
    | none => .ok (.d t) st
    | some (c, x) => .exc c x st := by
  obtain ⟨k, rfl⟩ := up2 (m := m) (by omega)
  rw [u_made_web]
  have w := fun st t ht => s_whole (m := k + 1) (by omega) g st t ht
  cases t with
  | tuple ds =>
    have hd := ht.2 ds (.inl rfl)
    match ds, hd with
    | [], _ => simp [startA, tyS, isiB, webForm]
    | [_], _ => simp [startA, tyS, isiB, webForm]
    | [a, b], hd =>
      have h1 := (hd a (by simp)).1
      have h2 := hd b (by simp)
      cases a with
      | int i =>
        by_cases hi : 0 ≤ i ∧ i ≤ 60
        · cases b with
          | tuple ds =>
            by_cases hl : 400 < ds.length
            · have hl' : (400 : Int) < ds.length := by omega
              simp [startA, tyS, isiB, webForm, w, h1, wholeB, hi.1, hi.2, hl, hl', List.replicate]
            · have hl' : ¬ (400 : Int) < ds.length := by omega
              have loop := web_loop (m := k + 1) (by omega) g st i (.tuple [.int i, .tuple ds]) ds [] none none none (fun d hd => ⟨(h2.2 ds (.inl rfl) d hd).1, fun es he e hm => ((h2.2 ds (.inl rfl) d hd).2 es (.inl he) e hm)⟩) rfl
              simp [startA, tyS, isiB, webForm, w, h1, wholeB, hi.1, hi.2, hl, hl', List.replicate]
              rw [for_xs _ _ _ (l := enF 0 ds) (s := st) ?h1]
              case h1 => simp [enA_eq]
              simp at loop
              cases e : linksBad i none 0 ds with
              | some j =>
                rw [e] at loop
                simp only at loop
                rw [loop]
                simp
              | none =>
                rw [e] at loop
                obtain ⟨x', y', loop⟩ := loop
                rw [loop]
                simp
                rw [nlc_fm (l := ds.map .d) (fun x => match x with
                  | .d d => some d
                  | _ => none) ?h2 ?h3 ?h4]
                case h2 => simp
                case h3 =>
                  intro x hx
                  obtain ⟨d, hd, rfl⟩ := List.mem_map.mp hx
                  obtain ⟨p, rfl⟩ := links_tup ds none 0 e d hd
                  simp [lcTurn, wipeA, quiet, pairD]
                case h4 => simp; omega
                rw [fm_d]
                simp [two_size]
          | dict _ => cases h2.1
          | _ => simp [startA, tyS, isiB, webForm, w, h1, wholeB, hi.1, hi.2, List.replicate]
        · have : (decide (0 ≤ i) && decide (i ≤ 60)) = false := by
            rw [← Bool.decide_and]; exact decide_eq_false hi
          simp [startA, tyS, isiB, webForm, w, h1, wholeB, this, hi, List.replicate]
      | dict _ => cases h1
      | _ => simp [startA, tyS, isiB, webForm, w, h1, wholeB, List.replicate]
    | a :: b :: c :: r, _ =>
      have e : ¬ ((r.length : Int) + 1 + 1 + 1 = 2) := by omega
      simp [startA, tyS, isiB, webForm, e]
  | dict _ => cases ht.1
  | _ => simp [startA, tyS, isiB, webForm]
/-- a refusal, as the law tells it -/
def refD : Option (Str × PyData) → PyData
  | none => .none
  | some (c, x) => .tuple [.str c, x]
theorem webc_loop {m : Nat} (h : 3 ≤ m) (g : Bool) (st : Store) (n : Int) (t : PyData) : ∀ (ds pre : List PyData) (prev : Option (Int × Int)) (x : Option AV), (∀ d ∈ ds, noDict d = true ∧ ∀ es, d = .tuple es → ∀ e ∈ es, noDict e = true) → (match prev with
      | none => pre = []
      | some p => pre.getLast? = some (pairD p)) →
    match linksBad n prev pre.length ds with
      | some j => forL (gNm 1) (b0_law_nk_web_cause g m) (rgF pre.length ds.length) [some (.d t), x, some (.d (.int n)), some (.d (.tuple (pre ++ ds)))] st = .ok (.rt (.d (.tuple [.str "BadWeb", .tuple [.int 1, .int j]]))) st
      | none => ∃ e, forL (gNm 1) (b0_law_nk_web_cause g m) (rgF pre.length ds.length) [some (.d t), x, some (.d (.int n)), some (.d (.tuple (pre ++ ds)))] st = .ok (.nx e) st
  | [], pre, prev, x, _, _ => ⟨_, rfl⟩
  | d :: ds, pre, prev, x, hd, hp => by
    have hd1 := hd d (List.mem_cons_self ..)
    have ih := fun prev x => webc_loop h g st n t ds (pre ++ [d]) prev x fun e he => hd e (List.mem_cons_of_mem _ he)
    rw [List.length_cons, rgF]
    unfold forL
    simp [xb0_law_nk_web_cause, at_mid, s_law_is_link h g st n d hd1.1 hd1.2]
    unfold linksBad
    cases e : linkP n d with
    | none => simp [two_size]
    | some q =>
      obtain ⟨rfl, _⟩ := linkP_eq e
      cases prev with
      | none =>
        have hp : pre = [] := hp
        subst hp
        simp
        simpa using ih (some q) _ (by simp)
      | some p =>
        have hp : pre.getLast? = some (pairD p) := hp
        have hpos : 0 < pre.length := by
          cases pre with
          | nil => cases hp
          | cons _ _ => simp
        simp [hpos, at_pred pre (pairD q :: ds) _ hp, flt_pair]
        by_cases hl : ltP p q = true
        · simp [hl]
          simpa using ih (some q) _ (by simp)
        · simp [hl, two_size]
theorem s_web_cause {m : Nat} (h : 4 ≤ m) (g : Bool) (st : Store) (t : PyData) (ht : nd3 t) : D g "_law_nk_web_cause" m [.d t] st = .ok (.d (refD (webForm t))) st := by
  obtain ⟨k, rfl⟩ := up2 (m := m) (by omega)
  rw [u_law_nk_web_cause]
  have w := fun st t ht => s_is_int (m := k + 1) (by omega) g st t ht
  cases t with
  | tuple ds =>
    have hd := ht.2 ds (.inl rfl)
    match ds, hd with
    | [], _ => simp [startA, tyS, isiB, webForm, refD, two_size]
    | [_], _ => simp [startA, tyS, isiB, webForm, refD, two_size]
    | [a, b], hd =>
      have h1 := (hd a (by simp)).1
      have h2 := hd b (by simp)
      cases a with
      | int i =>
        by_cases hi : 0 ≤ i ∧ i ≤ 60
        · cases b with
          | tuple ds =>
            by_cases hl : 400 < ds.length
            · have hl' : (400 : Int) < ds.length := by omega
              simp [startA, tyS, isiB, webForm, w, h1, wholeB, hi.1, hi.2, hl, hl', List.replicate, refD, two_size]
            · have hl' : ¬ (400 : Int) < ds.length := by omega
              have loop := webc_loop (m := k + 1) (by omega) g st i (.tuple [.int i, .tuple ds]) ds [] none none (fun d hd => ⟨(h2.2 ds (.inl rfl) d hd).1, fun es he e hm => ((h2.2 ds (.inl rfl) d hd).2 es (.inl he) e hm)⟩) rfl
              simp [startA, tyS, isiB, webForm, w, h1, wholeB, hi.1, hi.2, hl, hl', List.replicate]
              rw [for_xs _ _ _ (srg1_ok (s := st) (n := ds.length) ?h1 (by omega))]
              case h1 => simp
              simp at loop
              cases e : linksBad i none 0 ds with
              | some j =>
                rw [e] at loop
                simp only at loop
                rw [loop]
                simp [refD]
              | none =>
                rw [e] at loop
                obtain ⟨x', loop⟩ := loop
                rw [loop]
                simp [refD]
          | dict _ => cases h2.1
          | _ => simp [startA, tyS, isiB, webForm, w, h1, wholeB, hi.1, hi.2, List.replicate, refD, two_size]
        · have : (decide (0 ≤ i) && decide (i ≤ 60)) = false := by
            rw [← Bool.decide_and]; exact decide_eq_false hi
          simp [startA, tyS, isiB, webForm, w, h1, wholeB, this, hi, List.replicate, refD, two_size]
      | dict _ => cases h1
      | _ => simp [startA, tyS, isiB, webForm, w, h1, wholeB, List.replicate, refD, two_size]
    | a :: b :: c :: r, _ =>
      have e : ¬ ((r.length : Int) + 1 + 1 + 1 = 2) := by omega
      simp [startA, tyS, isiB, webForm, e, refD, two_size]
  | dict _ => cases ht.1
  | _ => simp [startA, tyS, isiB, webForm, refD, two_size]
/-! nets -/
def netBad : Nat → List PyData → Option Nat
  | _, [] => none
  | i, d :: ds => if (lotForm (i : Int) d).isNone = true then netBad (i + 1) ds else some i
def netForm : PyData → Option (Str × PyData)
  | .tuple ds => if 40 < ds.length then some ("BadNet", .int (-1)) else (netBad 0 ds).map fun i => ("BadNet", .int i)
  | _ => some ("BadNet", .int (-1))
theorem net_loop {m : Nat} (h : 4 ≤ m) (g : Bool) (st : Store) (t : PyData) : ∀ (ds : List PyData) (i : Nat) (x y : Option AV), (∀ d ∈ ds, noDict d = true ∧ ∀ es, d = .tuple es → ∀ e ∈ es, noDict e = true) →
    match netBad i ds with
      | some j => forL (gUn [1, 2]) (b0_made_net g m) (enF i ds) [some (.d t), x, y] st = .exc "BadNet" (.int j) st
      | none => ∃ x' y', forL (gUn [1, 2]) (b0_made_net g m) (enF i ds) [some (.d t), x, y] st = .ok (.nx [some (.d t), x', y']) st
  | [], i, x, y, _ => ⟨_, _, rfl⟩
  | d :: ds, i, x, y, hd => by
    have hd1 := hd d (List.mem_cons_self ..)
    have ih := fun x y => net_loop h g st t ds (i + 1) x y fun e he => hd e (List.mem_cons_of_mem _ he)
    unfold enF forL
    simp only [g_un, List.length_cons, List.length_nil]
    simp [xb0_made_net, s_is_lot h g st i d hd1.1 hd1.2]
    unfold netBad
    cases e : lotForm (i : Int) d with
    | some _ => simp
    | none =>
      simp
      exact ih _ _
theorem lot_tup {n : Int} {d : PyData} (h : lotForm n d = none) : ∃ es, d = .tuple es ∧ lotBad n (-1) 0 es = none := by
  cases d with
  | tuple es =>
    cases e : lotBad n (-1) 0 es with
    | none => exact ⟨es, rfl, e⟩
    | some j => simp [lotForm, e] at h
  | _ => cases h
theorem net_tup : ∀ (ds : List PyData) (i : Nat), netBad i ds = none → ∀ d ∈ ds, ∃ es, d = .tuple es
  | [], _, _ => fun d hd => by cases hd
  | d :: ds, i, h => by
    unfold netBad at h
    split at h
    · rename_i e
      intro z hz
      rcases List.mem_cons.mp hz with rfl | hz
      · obtain ⟨es, q, _⟩ := lot_tup (by simpa using e)
        exact ⟨es, q⟩
      · exact net_tup ds _ h z hz
    · cases h
theorem s_made_net {m : Nat} (h : 5 ≤ m) (g : Bool) (st : Store) (t : PyData) (ht : nd3 t) : D g "made_net" m [.d t] st = match netForm t with
    | none => .ok (.d t) st
    | some (c, x) => .exc c x st := by
  obtain ⟨k, rfl⟩ := up2 (m := m) (by omega)
  rw [u_made_net]
  cases t with
  | tuple ds =>
    have hd := ht.2 ds (.inl rfl)
    by_cases hl : 40 < ds.length
    · have hl' : (40 : Int) < ds.length := by omega
      simp [startA, tyS, isiB, netForm, hl, hl']
    · have hl' : ¬ (40 : Int) < ds.length := by omega
      have loop := net_loop (m := k + 1) (by omega) g st (.tuple ds) ds 0 none none fun d hm => ⟨(hd d hm).1, fun es he e h => ((hd d hm).2 es (.inl he) e h).1⟩
      simp [startA, tyS, isiB, netForm, hl, hl', List.replicate]
      rw [for_xs _ _ _ (l := enF 0 ds) (s := st) ?h1]
      case h1 => simp [enA_eq]
      cases e : netBad 0 ds with
      | some j =>
        rw [e] at loop
        simp only at loop
        rw [loop]
        simp
      | none =>
        rw [e] at loop
        obtain ⟨x', y', loop⟩ := loop
        rw [loop]
        simp
        rw [nlc_fm (l := ds.map .d) (fun x => match x with
          | .d d => some d
          | _ => none) ?h2 ?h3 ?h4]
        case h2 => simp
        case h3 =>
          intro x hx
          obtain ⟨d, hd, rfl⟩ := List.mem_map.mp hx
          obtain ⟨es, rfl⟩ := net_tup ds 0 e d hd
          simp [lcTurn, wipeA, quiet]
        case h4 => simp; omega
        rw [fm_d]
        simp
  | dict _ => cases ht.1
  | _ => simp [startA, tyS, isiB, netForm]
theorem at_head {β : Type} (x : β) (r : List β) : atI (x :: r) 0 = some x := by
  have h := at_nat (x :: r) 0
  simpa using h
theorem dep_nil : (PyData.list []).depth = 1 := by
  unfold PyData.depth PyData.depthAll
  rfl
theorem fne_nil (st : Store) (xs : List PyData) : fNe st (.d (.list xs)) (.d (.list [])) = some (.d (.bool (!xs.isEmpty))) := by
  have : PyData.eqv (.list xs) (.list []) = xs.isEmpty := by
    cases xs <;> simp [PyData.eqv, PyData.eqvAll]
  simp [fNe, onD, dep_nil, this]
  omega
def badIx : Nat → List PyData → List PyData
  | _, [] => []
  | i, d :: ds => if (lotForm (i : Int) d).isNone = true then badIx (i + 1) ds else .int i :: badIx (i + 1) ds
theorem netBad_ix : ∀ (ds : List PyData) (i : Nat), netBad i ds = match badIx i ds with
    | .int j :: _ => some j.toNat
    | _ => none
  | [], _ => rfl
  | d :: ds, i => by
    unfold netBad badIx
    split
    · exact netBad_ix ds (i + 1)
    · simp
def ixF (all : List PyData) : AV → Option PyData
  | .d (.int v) => match all[v.toNat]? with
    | some d => if (lotForm v d).isNone = true then none else some (.int v)
    | none => none
  | _ => none
theorem fm_ix : ∀ (ds pre : List PyData), (rgF pre.length ds.length).filterMap (ixF (pre ++ ds)) = badIx pre.length ds
  | [], _ => rfl
  | d :: ds, pre => by
    have ih := fm_ix ds (pre ++ [d])
    rw [List.length_cons, rgF]
    unfold badIx
    have e : ixF (pre ++ d :: ds) (.d (.int (pre.length : Int))) = if (lotForm (pre.length : Int) d).isNone = true then none else some (.int (pre.length : Int)) := by
      simp [ixF]
    simp only [List.length_append, List.length_cons, List.length_nil, List.append_assoc, List.cons_append, List.nil_append] at ih
    rw [List.filterMap_cons, e]
    split
    · rename_i q
      split at q
      · rename_i q2
        rw [if_pos q2]
        exact ih
      · cases q
    · rename_i q
      split at q
      · cases q
      · rename_i q2
        rw [if_neg q2]
        cases q
        rw [← ih]
theorem mem_rgF {x : AV} : ∀ {n i : Nat}, x ∈ rgF i n → ∃ j, i ≤ j ∧ j < i + n ∧ x = .d (.int (j : Int))
  | 0, _, h => by cases h
  | n + 1, i, h => by
    rw [rgF] at h
    rcases List.mem_cons.mp h with h | h
    · exact ⟨i, Nat.le_refl _, by omega, h⟩
    · obtain ⟨j, h1, h2, h3⟩ := mem_rgF h
      exact ⟨j, by omega, by omega, h3⟩
theorem len_rgF : ∀ (n i : Nat), (rgF i n).length = n
  | 0, _ => rfl
  | n + 1, i => by rw [rgF, List.length_cons, len_rgF n]
theorem s_net_cause {m : Nat} (h : 4 ≤ m) (g : Bool) (st : Store) (t : PyData) (ht : nd3 t) (hw : ∀ ds, t = .tuple ds → ∀ es, .tuple es ∈ ds → es.length ≤ 16777216) : D g "_law_nk_net_cause" m [.d t] st = .ok (.d (refD (netForm t))) st := by
  obtain ⟨k, rfl⟩ := up2 (m := m) (by omega)
  rw [u_law_nk_net_cause]
  cases t with
  | tuple ds =>
    have hd := ht.2 ds (.inl rfl)
    by_cases hl : 40 < ds.length
    · have hl' : (40 : Int) < ds.length := by omega
      simp [startA, tyS, isiB, netForm, hl, hl', refD, two_size]
    · have hl' : ¬ (40 : Int) < ds.length := by omega
      simp [startA, tyS, isiB, netForm, hl, hl', List.replicate]
      rw [nlc_fm (l := rgF 0 ds.length) (ixF ds) ?h1 ?h2 ?h3]
      case h1 => exact srg1_ok (by simp) (by omega)
      case h2 =>
        intro x hx
        obtain ⟨j, _, hj, rfl⟩ := mem_rgF hx
        have hj : j < ds.length := by omega
        have hm := hd ds[j] (List.getElem_mem hj)
        have c := s_lot_cause (m := k + 1) (by omega) g st (j : Int) ds[j] hm.1 fun es he => ⟨fun e h => (hm.2 es (.inl he) e h).1, hw ds rfl es (by rw [← he]; exact List.getElem_mem hj)⟩
        simp [lcTurn, wipeA, quiet, at_nat, List.getElem?_eq_getElem hj, c, ixF]
        cases lotForm (j : Int) ds[j] <;> simp [causeD, isB]
      case h3 => rw [len_rgF]; omega
      have := fm_ix ds []
      simp at this
      rw [this, netBad_ix]
      cases e : badIx 0 ds with
      | nil => simp [fne_nil, refD]
      | cons b r =>
        have hb : ∃ j : Nat, b = .int (j : Int) := by
          clear this hl hl' hd ht hw h
          have key : ∀ (ds : List PyData) (i : Nat), b ∈ badIx i ds → ∃ j : Nat, b = .int (j : Int) := by
            intro ds
            induction ds with
            | nil => intro i h; cases h
            | cons d ds ih =>
              intro i h
              unfold badIx at h
              split at h
              · exact ih _ h
              · rcases List.mem_cons.mp h with h | h
                · exact ⟨i, h⟩
                · exact ih _ h
          exact key ds 0 (by rw [e]; simp)
        obtain ⟨j, rfl⟩ := hb
        simp [fne_nil, refD, two_size, at_head]
  | dict _ => cases ht.1
  | _ => simp [startA, tyS, isiB, netForm, refD, two_size]
end NL
end
section
set_option Elab.async false
set_option linter.all false
set_option maxRecDepth 100000
set_option maxHeartbeats 1000000
/-! Plain: dicts of truths, sorted keys. -/
namespace NL
open PySem PySem.Spec PyProof.Rows L2

section
variable {α κ : Type} [DecidableEq α] [DecidableEq κ]
def ins (ks : List α) (k : α) : List α := if k ∈ ks then ks else ks ++ [k]
def insAll (ks l : List α) : List α := l.foldl ins ks
theorem mem_ins {ks : List α} {k x : α} : x ∈ ins ks k ↔ x ∈ ks ∨ x = k := by
  unfold ins
  split
  · rename_i h
    exact ⟨.inl, fun z => z.elim id fun e => by rw [e]; exact h⟩
  · simp
theorem mem_insAll {x : α} : ∀ {l ks : List α}, x ∈ insAll ks l ↔ x ∈ ks ∨ x ∈ l
  | [], ks => by simp [insAll]
  | k :: l, ks => by
    show x ∈ insAll (ins ks k) l ↔ _
    rw [mem_insAll, mem_ins, List.mem_cons, or_assoc]
theorem nd_ins {ks : List α} {k : α} (h : ks.Nodup) : (ins ks k).Nodup := by
  unfold ins
  split
  · exact h
  · rename_i n
    rw [List.nodup_append]
    exact ⟨h, by simp, fun a ha b hb => by rw [List.mem_singleton.mp hb]; exact fun z => n (z ▸ ha)⟩
theorem nd_insAll : ∀ {l ks : List α}, ks.Nodup → (insAll ks l).Nodup
  | [], _, h => h
  | k :: l, ks, h => nd_insAll (l := l) (nd_ins h)
theorem len_ins (ks : List α) (k : α) : (ins ks k).length ≤ ks.length + 1 := by
  unfold ins
  split
  · omega
  · simp
theorem len_insAll : ∀ (l ks : List α), (insAll ks l).length ≤ ks.length + l.length
  | [], _ => Nat.le_refl _
  | k :: l, ks => by
    have h1 := len_insAll l (ins ks k)
    have h2 := len_ins ks k
    show (insAll (ins ks k) l).length ≤ _
    rw [List.length_cons]; omega
theorem ins_nodup : ∀ (l ks : List α), (∀ x ∈ l, x ∉ ks) → l.Nodup → insAll ks l = ks ++ l
  | [], ks, _, _ => by simp [insAll]
  | k :: l, ks, h, nd => by
    rw [List.nodup_cons] at nd
    show insAll (ins ks k) l = _
    have e : ins ks k = ks ++ [k] := if_neg (h k (List.mem_cons_self ..))
    rw [e, ins_nodup l _ (fun x hx => by
      rw [List.mem_append, not_or]
      exact ⟨h x (List.mem_cons_of_mem _ hx), fun z => nd.1 (by rw [← List.mem_singleton.mp z]; exact hx)⟩) nd.2]
    simp
def kv (f : α → κ) (ks : List α) : List (κ × PyData) := ks.map fun a => (f a, .bool true)
variable {f : α → κ}
theorem put_kv (hf : ∀ a b, f a = f b → a = b) (ks : List α) (k : α) : putD (kv f ks) (f k) (.bool true) = kv f (ins ks k) := by
  unfold putD ins
  have e : ((kv f ks).any fun p => decide (p.1 = f k)) = decide (k ∈ ks) := by
    rw [Bool.eq_iff_iff]
    simp only [List.any_eq_true, decide_eq_true_eq, kv, List.mem_map]
    exact ⟨fun ⟨p, ⟨a, ha, e⟩, h⟩ => by subst e; rw [← hf _ _ h]; exact ha, fun h => ⟨_, ⟨k, h, rfl⟩, rfl⟩⟩
  rw [e]
  by_cases h : k ∈ ks
  · rw [if_pos (decide_eq_true h), if_pos h]
    unfold kv
    rw [List.map_map]
    apply List.map_congr_left
    intro a _
    simp only [Function.comp]
    split
    · rfl
    · rfl
  · rw [if_neg (by simp [h]), if_neg h]
    simp [kv]
theorem merge_kv (hf : ∀ a b, f a = f b → a = b) : ∀ (l ks : List α), mergeD (kv f ks) (kv f l) = kv f (insAll ks l)
  | [], _ => rfl
  | k :: l, ks => by
    show mergeD (putD (kv f ks) (f k) (.bool true)) (kv f l) = _
    rw [put_kv hf, merge_kv hf l]
    rfl
theorem len_kv (ks : List α) : (kv f ks).length = ks.length := by simp [kv]
theorem val_kv (hf : ∀ a b, f a = f b → a = b) (ks : List α) (k : α) : (valD (kv f ks) (f k)).isSome = decide (k ∈ ks) := by
  unfold valD
  rw [Option.isSome_map, Bool.eq_iff_iff, List.find?_isSome]
  simp only [decide_eq_true_eq, kv, List.mem_map]
  exact ⟨fun ⟨p, ⟨a, ha, e⟩, h⟩ => by subst e; rw [← hf _ _ h]; exact ha, fun h => ⟨_, ⟨k, h, rfl⟩, rfl⟩⟩
end
def kI : Int → Key := Sum.inl
theorem kI_inj (a b : Int) (h : kI a = kI b) : a = b := Sum.inl.inj h
def kP (p : Int × Int) : List Key := [.inl p.1, .inl p.2]
theorem kP_inj (a b : Int × Int) (h : kP a = kP b) : a = b := by
  obtain ⟨a1, a2⟩ := a
  obtain ⟨b1, b2⟩ := b
  simpa [kP] using h
/-- a dict of such numbers, all true -/
def dI (ks : List Int) : DC := .k (kv kI ks)
def dP (ks : List (Int × Int)) : DC := .t (kv kP ks)
def lotD (l : List Int) : PyData := .tuple (l.map .int)
def netD (N : List (List Int)) : PyData := .tuple (N.map lotD)
section
variable (st : Store)
theorem get_last (c : Cell) : (st ++ [c])[st.length]? = some c := by simp
theorem set_last (c c' : Cell) : (st ++ [c]).set st.length c' = st ++ [c'] := by simp
theorem take_last (c : Cell) : (st ++ [c]).take st.length = st := by simp
theorem in_dI (ks : List Int) (i : Int) : fIn (st ++ [.d (dI ks)]) (.d (.int i)) (.r st.length) = some (.d (.bool (decide (i ∈ ks)))) := by
  have h : (valD (kv kI ks) (kI i)).isSome = decide (i ∈ ks) := val_kv kI_inj ks i
  simp only [fIn, oneOf, onD, vw, get_last, inK, dcOf, dI, DC.get, toKey, Option.map_some]
  simp only [kI] at h ⊢
  simp [h]
theorem up_dI (ks js : List Int) (h : ks.length + js.length ≤ 16777216) : mUpdate (st ++ [.d (dI ks)]) (.r st.length) [.c (dI js)] = some (.d .none, st ++ [.d (dI (insAll ks js))]) := by
  have e : mUpdK (st ++ [.d (dI ks)]) (.r st.length) [.c (dI js)] = some (.d .none, st ++ [.d (dI (insAll ks js))]) := by
    simp only [mUpdK, get_last, dcOf, dI, otherCell]
    rw [if_pos ⟨trivial, by rw [len_kv, len_kv, size_lit]; exact h⟩, merge_kv kI_inj, set_last]
  simp only [mUpdate, oneOfM, e]
theorem srt_dI (ks : List Int) (h : sortB ((ks.map PyData.int)) = true) : gSort (st ++ [.d (dI ks)]) [.r st.length] = some (.d (.list ((ks.map PyData.int).mergeSort leD))) := by
  have e : (dI ks).keys = ks.map PyData.int := by
    simp [dI, DC.keys, kv, keyD, kI]
  simp only [gSort, oneOfC, gSort1, ls, vw, get_last, gSort2, dcOf, e, h, if_true]
end
theorem le_i (a b : Int) : leD (.int a) (.int b) = decide (a ≤ b) := by
  have : leD (.int a) (.int b) = !PySem.W.dataLt (.int b) (.int a) := rfl
  rw [this, lt_i, ← decide_not]
  simp
theorem le_p (a b : Int × Int) : leD (pairD a) (pairD b) = !ltP b a := by
  have : leD (pairD a) (pairD b) = !PySem.W.dataLt (pairD b) (pairD a) := rfl
  rw [this, lt_pair]
def sortI (ks : List Int) : List Int := ks.mergeSort fun a b => decide (a ≤ b)
def sortP (ks : List (Int × Int)) : List (Int × Int) := ks.mergeSort fun a b => !ltP b a
theorem sortI_map (ks : List Int) : (ks.map PyData.int).mergeSort leD = (sortI ks).map .int := by
  unfold sortI
  rw [List.map_mergeSort]
  intro a _ b _
  exact (le_i a b).symm
theorem sortP_map (ks : List (Int × Int)) : (ks.map pairD).mergeSort leD = (sortP ks).map pairD := by
  unfold sortP
  rw [List.map_mergeSort]
  intro a _ b _
  exact (le_p a b).symm
theorem sortB_i (ks : List Int) : sortB (ks.map PyData.int) = true := by
  simp only [sortB, alikeB, Bool.and_eq_true, Bool.or_eq_true, List.all_eq_true, decide_eq_true_eq, List.mem_map]
  refine ⟨⟨fun d ⟨a, _, e⟩ d' ⟨b, _, e'⟩ => ?_, .inr fun d ⟨a, _, e⟩ => ?_⟩, fun d ⟨a, _, e⟩ => ?_⟩
  · subst e e'; rfl
  · subst e; rfl
  · subst e; rw [dep_i]; omega
theorem dep_pair (p : Int × Int) : (pairD p).depth = 1 := by
  simp [pairD, PyData.depth, PyData.depthAll]
theorem sortB_p (ks : List (Int × Int)) : sortB (ks.map pairD) = true := by
  simp only [sortB, alikeB, Bool.and_eq_true, Bool.or_eq_true, List.all_eq_true, decide_eq_true_eq, List.mem_map]
  refine ⟨⟨fun d ⟨a, _, e⟩ d' ⟨b, _, e'⟩ => ?_, .inl fun d ⟨a, _, e⟩ => ?_⟩, fun d ⟨a, _, e⟩ => ?_⟩
  · subst e e'; simp [pairD, PySem.W.alike, PySem.W.alikeAll]
  · subst e; rfl
  · subst e; rw [dep_pair]; omega
theorem srtI (st : Store) (ks : List Int) : gSort (st ++ [.d (dI ks)]) [.r st.length] = some (.d (.list ((sortI ks).map .int))) := by
  rw [srt_dI _ _ (sortB_i ks), sortI_map]
theorem srtP (st : Store) (ks : List (Int × Int)) : gSort (st ++ [.d (dP ks)]) [.r st.length] = some (.d (.list ((sortP ks).map pairD))) := by
  have e : (dP ks).keys = ks.map pairD := by
    simp [dP, DC.keys, kv, keysD, kP, keyD, pairD]
  simp only [gSort, oneOfC, gSort1, ls, vw, get_last, gSort2, dcOf, e, sortB_p, if_true, sortP_map]
theorem srt_l (st : Store) (ks : List Int) : gSort st [.d (.list (ks.map .int))] = some (.d (.list ((sortI ks).map .int))) := by
  simp only [gSort, oneOfC, gSort1, ls, vw, sortB_i, if_true, sortI_map]
theorem srt_lp (st : Store) (ks : List (Int × Int)) : gSort st [.d (.list (ks.map pairD))] = some (.d (.list ((sortP ks).map pairD))) := by
  simp only [gSort, oneOfC, gSort1, ls, vw, sortB_p, if_true, sortP_map]
/-! dict displays of such -/
theorem dcL_kv {turn : AV → Store → Out (Option (Key × PyData))} {st : Store} : ∀ (l ks : List Int), (∀ i ∈ l, turn (.d (.int i)) st = .ok (some (kI i, .bool true)) st) → ks.length + l.length ≤ 16777216 →
    dcL turn (l.map fun i => .d (.int i)) (kv kI ks) st = .ok (kv kI (insAll ks l)) st
  | [], _, _, _ => rfl
  | i :: l, ks, h, hl => by
    have h1 := h i (List.mem_cons_self ..)
    rw [List.length_cons] at hl
    rw [List.map_cons]
    unfold dcL
    rw [h1, Out.bind_ok]
    show (if (kv kI ks).length < sizeLine then _ else _) = _
    rw [if_pos (by rw [len_kv, size_lit]; omega)]
    show dcL turn _ (putD (kv kI ks) (kI i) (.bool true)) st = _
    rw [put_kv kI_inj, dcL_kv l _ (fun j hj => h j (List.mem_cons_of_mem _ hj)) (by have := len_ins ks i; omega)]
    rfl
theorem ndc_kv {src : FSrc} {j : Nat} {a : Env} {st : Store} {l : List Int} (hj : j < a.length) (hs : src a st = .ok (.xs (l.map fun i => .d (.int i))) st) (hl : l.length ≤ 16777216) :
    nDc src (gNm j) tYes' (eVar j) (eC (.bool true)) [j] a st = .ok (.d (dI (insAll [] l))) st := by
  rw [dc_xs _ _ _ _ _ _ hs]
  have := dcL_kv (turn := dcTurn (gNm j) tYes' (eVar j) (eC (.bool true)) [j] a) (st := st) l [] (fun i _ => ?_) (by simpa using hl)
  · rw [show (kv kI ([] : List Int)) = [] from rfl] at this
    rw [this]
    rfl
  · simp [dcTurn, wipeA, quiet, hj, toKey, kI]
theorem pairs_kv : ∀ l : List Int, pairsK (l.map fun i => PyData.tuple [.int i, .bool true]) = some (kv kI l)
  | [] => rfl
  | i :: l => by
    rw [List.map_cons]
    unfold pairsK
    rw [pairs_kv l]
    rfl
theorem hdk (st : Store) (l : List Int) : hDictK st [.d (.list (l.map fun i => .tuple [.int i, .bool true]))] = some (.d (dI (insAll [] l))) := by
  simp only [hDictK, gDictK, ls, vw, pairs_kv, Option.map_some]
  rw [show ([] : List (Key × PyData)) = kv kI [] from rfl, merge_kv kI_inj]
  rfl
theorem nlc_kv {src : FSrc} {j : Nat} {a : Env} {st : Store} {l : List Int} (hj : j < a.length) (hs : src a st = .ok (.xs (l.map fun i => .d (.int i))) st) (hl : l.length ≤ 16777216) :
    nLc src (gNm j) tYes' (eTup (aCons (eVar j) (aCons (eC (.bool true)) aNil))) [j] a st = .ok (.l (l.map fun i => .tuple [.int i, .bool true])) st := by
  rw [nlc_fm (l := l.map fun i => .d (.int i)) (fun x => match x with
    | .d d => some (.tuple [d, .bool true])
    | _ => none) hs ?h2 (by simpa using hl)]
  case h2 =>
    intro x hx
    obtain ⟨i, _, rfl⟩ := List.mem_map.mp hx
    simp [lcTurn, wipeA, quiet, hj, two_size]
  congr 2
  rw [List.filterMap_map]
  exact List.filterMap_eq_map ▸ rfl
end NL
end
section
set_option Elab.async false
set_option linter.all false
set_option maxRecDepth 100000
set_option maxHeartbeats 1000000
/-! Plain: hashes of pairs of small numbers. -/
namespace NL
open PySem PySem.Spec PyProof.Rows L2

/-! hashes of pairs of small numbers -/
def hashes (a : Nat) : List Int := (List.range 64).map fun (b : Nat) => hashT [(a : Int), (b : Int)]
theorem hash_nd : ((List.range 64).all fun a => decide (hashes a).Nodup) = true := by
  decide +kernel
theorem hash_lt {a b c : Nat} (ha : a < 64) (hc : c < 64) (q : b < c) : hashT [(a : Int), (b : Int)] ≠ hashT [(a : Int), (c : Int)] := by
  have h1 := List.all_eq_true.mp hash_nd a (List.mem_range.mpr ha)
  have h1 := of_decide_eq_true h1
  unfold hashes at h1
  rw [List.Nodup, List.pairwise_map] at h1
  have hc' : c < (List.range 64).length := by rw [List.length_range]; exact hc
  have := List.pairwise_iff_getElem.mp h1 b c (Nat.lt_trans q hc') hc' q
  rw [List.getElem_range, List.getElem_range] at this
  exact this
theorem hash_inj {a b c : Nat} (ha : a < 64) (hb : b < 64) (hc : c < 64) (h : hashT [(a : Int), (b : Int)] = hashT [(a : Int), (c : Int)]) : b = c := by
  rcases Nat.lt_trichotomy b c with q | q | q
  · exact absurd h (hash_lt ha hc q)
  · exact q
  · exact absurd h.symm (hash_lt ha hb q)
theorem hashL_pairs (a : Int) : ∀ r : List Int, hashL ((r.map fun o => kP (a, o))) = some (r.map fun o => hashT [a, o])
  | [] => rfl
  | o :: r => by
    rw [List.map_cons]
    unfold hashL
    rw [hashL_pairs a r]
    rfl
theorem apart_pairs {a : Int} {r : List Int} (ha : 0 ≤ a ∧ a < 64) (hr : ∀ o ∈ r, 0 ≤ o ∧ o < 64) (nd : r.Nodup) : apartB (r.map fun o => kP (a, o)) = true := by
  unfold apartB
  rw [hashL_pairs]
  apply decide_eq_true
  rw [List.Nodup, List.pairwise_map]
  refine List.Pairwise.imp_of_mem ?_ nd
  intro x y hx hy ne h
  have hx := hr x hx
  have hy := hr y hy
  have := hash_inj (a := a.toNat) (b := x.toNat) (c := y.toNat) (by omega) (by omega) (by omega) (by
    rw [Int.toNat_of_nonneg ha.1, Int.toNat_of_nonneg hx.1, Int.toNat_of_nonneg hy.1]
    exact h)
  exact ne (by omega)
end NL
end
section
set_option Elab.async false
set_option linter.all false
set_option maxRecDepth 100000
set_option maxHeartbeats 1000000
/-! Plain: who stands above a lot. -/
namespace NL
open PySem PySem.Spec PyProof.Rows L2

def dn : Nat → List Nat
  | 0 => []
  | n + 1 => n :: dn n
theorem mem_dn : ∀ {n v : Nat}, v ∈ dn n ↔ v < n
  | 0, v => by simp [dn]
  | n + 1, v => by
    simp only [dn, List.mem_cons, mem_dn]
    omega
theorem rgA_dn : ∀ n : Nat, rgA ((n : Int) - 1) (-1) n = (dn n).map fun (v : Nat) => AV.d (.int (v : Int))
  | 0 => rfl
  | n + 1 => by
    have ih := rgA_dn n
    unfold rgA at ih ⊢
    rw [List.range_succ_eq_map, List.map_cons, List.map_map, dn, List.map_cons, ← ih]
    congr 1
    · simp
    · apply List.map_congr_left
      intro i _
      simp
      omega
def atN (N : List (List Int)) (v : Nat) : List Int := N[v]?.getD []
theorem atN_of {N : List (List Int)} {v : Nat} (h : v < N.length) : N[v]? = some (atN N v) := by
  simp [atN, List.getElem?_eq_getElem h]
theorem atN_len {N : List (List Int)} (hW : ∀ l ∈ N, l.length ≤ 64) (v : Nat) : (atN N v).length ≤ 64 := by
  unfold atN
  cases e : N[v]? with
  | none => simp
  | some l => exact hW l (List.mem_of_getElem? e)
def stepA (N : List (List Int)) (ks : List Int) (v : Nat) : List Int := if (v : Int) ∈ ks then insAll ks (insAll [] (atN N v)) else ks
def foundF (N : List (List Int)) (lot : List Int) : List Int := (dn N.length).foldl (stepA N) (insAll [] lot)
def ancF (N : List (List Int)) (lot : List Int) : List Int := sortI (foundF N lot)
theorem len_stepA {N : List (List Int)} (hW : ∀ l ∈ N, l.length ≤ 64) (ks : List Int) (v : Nat) : (stepA N ks v).length ≤ ks.length + 64 := by
  unfold stepA
  split
  · have h1 := len_insAll (insAll [] (atN N v)) ks
    have h2 := len_insAll (atN N v) ([] : List Int)
    have h3 := atN_len hW v
    simp only [List.length_nil] at h2
    omega
  · omega
theorem net_at {N : List (List Int)} {v : Nat} (hv : v < N.length) (st : Store) : fSub1 st (.d (netD N)) (.d (.int (v : Int))) = some (.d (lotD (atN N v))) := by
  unfold netD
  rw [ix_t, at_nat]
  rw [List.getElem?_map, atN_of hv]
  rfl
theorem lot_src (l : List Int) (st : Store) : srcOf st (.d (lotD l)) = some (.xs (l.map fun i => .d (.int i))) := by
  unfold lotD
  rw [src_t, List.map_map]
  rfl
theorem ty_dict (st : Store) (ks : List Int) : tyS (st ++ [.d (dI ks)]) (.r st.length) = some "dict" := by
  simp only [tyS, get_last]
theorem abv_body {m : Nat} {g : Bool} {st : Store} {N : List (List Int)} {v : Nat} {ks : List Int} {z : AV} {x : Option AV} (hv : v < N.length) (hW : ∀ l ∈ N, l.length ≤ 64) (hk : ks.length + 64 ≤ 16777216) :
    b0_above g m [some (.d (netD N)), some z, some (.r st.length), some (.d (.int (v : Int))), x] (st ++ [.d (dI ks)]) = .ok (.nx [some (.d (netD N)), some z, some (.r st.length), some (.d (.int (v : Int))), x]) (st ++ [.d (dI (stepA N ks v))]) := by
  rw [xb0_above]
  by_cases h : (v : Int) ∈ ks
  · have hl := atN_len hW v
    have h2 := len_insAll (atN N v) ([] : List Int)
    simp only [List.length_nil] at h2
    simp [in_dI, h, ty_dict]
    rw [ndc_kv (l := atN N v) (by simp) (by simp [net_at hv, lot_src]) (by omega)]
    simp [up_dI st ks _ (show ks.length + (insAll [] (atN N v)).length ≤ 16777216 by omega)]
    unfold stepA
    rw [if_pos h]
  · simp [in_dI, h]
    unfold stepA
    rw [if_neg h]
theorem abv_loop {m : Nat} {g : Bool} {st : Store} {N : List (List Int)} {z : AV} (hW : ∀ l ∈ N, l.length ≤ 64) : ∀ (k : Nat) (ks : List Int) (x y : Option AV), k ≤ N.length → ks.length + 64 * k ≤ 16777216 →
    ∃ x', forL (gNm 3) (b0_above g m) ((dn k).map fun (v : Nat) => AV.d (.int (v : Int))) [some (.d (netD N)), some z, some (.r st.length), x, y] (st ++ [.d (dI ks)]) = .ok (.nx [some (.d (netD N)), some z, some (.r st.length), x', y]) (st ++ [.d (dI ((dn k).foldl (stepA N) ks))])
  | 0, ks, x, y, _, _ => ⟨_, rfl⟩
  | k + 1, ks, x, y, hk, hl => by
    have h1 := len_stepA hW ks k
    obtain ⟨x', ih⟩ := abv_loop (st := st) (g := g) (m := m) (z := z) hW k (stepA N ks k) (some (.d (.int (k : Int)))) y (by omega) (by omega)
    refine ⟨x', ?_⟩
    rw [dn, List.map_cons, List.foldl_cons]
    unfold forL
    simp only [g_nm, List.set_cons_succ, List.set_cons_zero]
    rw [abv_body (by omega) hW (by omega)]
    exact ih
theorem len_dn : ∀ n, (dn n).length = n
  | 0 => rfl
  | n + 1 => by rw [dn, List.length_cons, len_dn]
theorem s_above {m : Nat} (h : 2 ≤ m) (g : Bool) (st : Store) {N : List (List Int)} {lot : List Int} (hN : N.length ≤ 64) (hW : ∀ l ∈ N, l.length ≤ 64) (hL : lot.length ≤ 64) : D g "above" m [.d (netD N), .d (lotD lot)] st = .ok (.d (.list ((ancF N lot).map .int))) st := by
  obtain ⟨k, rfl⟩ := up2 (m := m) (by omega)
  rw [u_above]
  have h0 := len_insAll lot ([] : List Int)
  simp only [List.length_nil] at h0
  obtain ⟨x', loop⟩ := abv_loop (m := k + 1) (g := g) (st := st) (z := .d (lotD lot)) hW N.length (insAll [] lot) none none (Nat.le_refl _) (by omega)
  simp [startA, List.replicate]
  rw [ndc_kv (l := lot) (by simp) (by simp [lot_src]) (by omega)]
  simp
  rw [for_xs _ _ _ (l := (dn N.length).map fun (v : Nat) => AV.d (.int (v : Int))) (s := st ++ [.d (dI (insAll [] lot))]) ?h1, loop]
  case h1 =>
    rw [srg3_ok (i := (N.length : Int) - 1) (j := -1) (s := st ++ [.d (dI (insAll [] lot))]) ?h2 (by omega) (by omega)]
    case h2 => simp [netD]
    rw [show ((N.length : Int) - 1 - -1).toNat = N.length by omega, rgA_dn]
  simp [srtI, ancF, foundF]
/-! lots that are right -/
def UpF (n : Int) : Int → List Int → Prop
  | _, [] => True
  | last, k :: l => (last + 1 ≤ k ∧ k ≤ n - 1) ∧ UpF n k l
theorem lotBad_ints (n : Int) : ∀ (ds : List PyData) (last : Int) (i : Nat), lotBad n last i ds = none ↔ ∃ l : List Int, ds = l.map .int ∧ UpF n last l
  | [], last, i => ⟨fun _ => ⟨[], rfl, trivial⟩, fun _ => rfl⟩
  | d :: ds, last, i => by
    unfold lotBad
    constructor
    · intro h
      split at h
      · rename_i k
        split at h
        · rename_i q
          obtain ⟨l, rfl, hu⟩ := (lotBad_ints n ds k (i + 1)).mp h
          exact ⟨k :: l, rfl, q, hu⟩
        · cases h
      · cases h
    · rintro ⟨l, e, hu⟩
      cases l with
      | nil => cases e
      | cons k l =>
        rw [List.map_cons] at e
        injection e with e1 e2
        subst e1
        simp only
        rw [if_pos hu.1]
        exact (lotBad_ints n ds k (i + 1)).mpr ⟨l, e2, hu.2⟩
theorem lotForm_none {n : Int} {t : PyData} : lotForm n t = none ↔ ∃ l : List Int, t = lotD l ∧ UpF n (-1) l := by
  constructor
  · intro h
    obtain ⟨es, rfl, h2⟩ := lot_tup h
    obtain ⟨l, rfl, hu⟩ := (lotBad_ints n es (-1) 0).mp h2
    exact ⟨l, rfl, hu⟩
  · rintro ⟨l, rfl, hu⟩
    have := (lotBad_ints n (l.map .int) (-1) 0).mpr ⟨l, rfl, hu⟩
    simp [lotForm, lotD, this]
theorem UpF.lt {n : Int} : ∀ {l : List Int} {last : Int}, UpF n last l → ∀ x ∈ l, last < x ∧ x ≤ n - 1
  | [], _, _ => fun x h => by cases h
  | k :: l, last, ⟨h1, h2⟩ => fun x h => by
    rcases List.mem_cons.mp h with rfl | h
    · omega
    · have := UpF.lt h2 x h
      omega
theorem UpF.sorted {n : Int} : ∀ {l : List Int} {last : Int}, UpF n last l → l.Pairwise (· < ·)
  | [], _, _ => .nil
  | k :: l, last, ⟨_, h2⟩ => .cons (fun x hx => (UpF.lt h2 x hx).1) (UpF.sorted h2)
theorem UpF.len {n : Int} : ∀ {l : List Int} {last : Int}, UpF n last l → l ≠ [] → (l.length : Int) ≤ n - 1 - last
  | [], _, _, h => absurd rfl h
  | [k], last, ⟨h1, _⟩, _ => by simp; omega
  | k :: j :: l, last, ⟨h1, h2⟩, _ => by
    have := UpF.len h2 (by simp)
    simp only [List.length_cons] at this ⊢
    omega
theorem UpF.len' {n : Nat} {l : List Int} (h : UpF n (-1) l) : l.length ≤ n := by
  by_cases e : l = []
  · subst e; simp
  · have := UpF.len h e
    omega
theorem up_of {n : Int} : ∀ {l : List Int} {last : Int}, l.Pairwise (· < ·) → (∀ x ∈ l, last < x ∧ x ≤ n - 1) → UpF n last l
  | [], _, _, _ => trivial
  | k :: l, last, hp, h => by
    rw [List.pairwise_cons] at hp
    have hk := h k (List.mem_cons_self ..)
    exact ⟨⟨by omega, hk.2⟩, up_of hp.2 fun x hx => ⟨hp.1 x hx, (h x (List.mem_cons_of_mem _ hx)).2⟩⟩
/-- a net: each place's parents stand ahead of it -/
structure Net (N : List (List Int)) : Prop where
  len : N.length ≤ 40
  up : ∀ v < N.length, UpF (v : Int) (-1) (atN N v)
theorem netBad_none : ∀ (ds : List PyData) (i : Nat), netBad i ds = none ↔ ∃ N : List (List Int), ds = N.map lotD ∧ ∀ v < N.length, UpF ((i + v : Nat) : Int) (-1) (atN N v)
  | [], i => ⟨fun _ => ⟨[], rfl, fun v h => by simp at h⟩, fun _ => rfl⟩
  | d :: ds, i => by
    unfold netBad
    constructor
    · intro h
      split at h
      · rename_i q
        obtain ⟨l, rfl, hu⟩ := lotForm_none.mp (show lotForm (i : Int) d = none by simpa using q)
        obtain ⟨N, rfl, hN⟩ := (netBad_none ds (i + 1)).mp h
        refine ⟨l :: N, rfl, fun v hv => ?_⟩
        cases v with
        | zero => exact hu
        | succ v =>
          have := hN v (by simpa using hv)
          rw [show i + (v + 1) = i + 1 + v by omega]
          exact this
      · cases h
    · rintro ⟨N, e, hN⟩
      cases N with
      | nil => cases e
      | cons l N =>
        rw [List.map_cons] at e
        injection e with e1 e2
        subst e1
        rw [if_pos (by
          have := lotForm_none.mpr ⟨l, rfl, hN 0 (by simp)⟩
          simp at this
          simp [this])]
        refine (netBad_none ds (i + 1)).mpr ⟨N, e2, fun v hv => ?_⟩
        have := hN (v + 1) (by simpa using hv)
        rw [show i + (v + 1) = i + 1 + v by omega] at this
        exact this
theorem netForm_none {t : PyData} : netForm t = none ↔ ∃ N, t = netD N ∧ Net N := by
  constructor
  · intro h
    cases t with
    | tuple ds =>
      by_cases hl : 40 < ds.length
      · simp [netForm, hl] at h
      · have e : netBad 0 ds = none := by
          cases e : netBad 0 ds with
          | none => rfl
          | some j => simp [netForm, hl, e] at h
        obtain ⟨N, rfl, hN⟩ := (netBad_none ds 0).mp e
        exact ⟨N, rfl, ⟨by simpa using hl, fun v hv => by simpa using hN v hv⟩⟩
    | _ => cases h
  · rintro ⟨N, rfl, hN⟩
    have e : netBad 0 (N.map lotD) = none := (netBad_none _ 0).mpr ⟨N, rfl, fun v hv => by simpa using hN.up v hv⟩
    have := hN.len
    simp [netForm, netD, e]
    omega
theorem Net.w {N : List (List Int)} (h : Net N) : ∀ l ∈ N, l.length ≤ 64 := fun l hl => by
  obtain ⟨v, hv, e⟩ := List.getElem_of_mem hl
  have := (h.up v hv).len'
  have e2 := atN_of hv
  rw [List.getElem?_eq_getElem hv, e] at e2
  cases e2
  have := h.len
  omega
theorem nd3_net (N : List (List Int)) : nd3 (netD N) := by
  refine ⟨rfl, fun ds h d hd => ?_⟩
  rcases h with h | h
  · cases h
    obtain ⟨l, _, rfl⟩ := List.mem_map.mp hd
    refine ⟨rfl, fun es h e he => ?_⟩
    rcases h with h | h
    · cases h
      obtain ⟨i, _, rfl⟩ := List.mem_map.mp he
      exact ⟨rfl, fun fs h => by rcases h with h | h <;> cases h⟩
    · cases h
  · cases h
/-! asked of a net and a lot -/
theorem s_ancestors_of {m : Nat} (h : 6 ≤ m) (g : Bool) (st : Store) (t z : PyData) (ht : nd3 t) (hz : nd3 z) : D g "ancestors_of" m [.d t, .d z] st = match netForm t with
    | some (c, x) => .exc c x st
    | none => match t with
      | .tuple ds => match lotForm ds.length z with
        | some i => .exc "BadLot" (.int i) st
        | none => D g "ancestors_of" m [.d t, .d z] st
      | _ => D g "ancestors_of" m [.d t, .d z] st := by
  obtain ⟨k, rfl⟩ := up2 (m := m) (by omega)
  cases e : netForm t with
  | some p =>
    obtain ⟨c, x⟩ := p
    simp only
    rw [u_ancestors_of]
    have := s_made_net (m := k + 1) (by omega) g st t ht
    rw [e] at this
    simp [startA, this]
  | none =>
    obtain ⟨N, rfl, hN⟩ := netForm_none.mp e
    simp only [netD]
    cases e2 : lotForm ((N.map lotD).length : Int) z with
    | none => rfl
    | some i =>
      simp only
      rw [u_ancestors_of]
      have h1 := s_made_net (m := k + 1) (by omega) g st (netD N) ht
      rw [e] at h1
      have h2 := s_asked_lot (m := k + 1) (by omega) g st ((N.map lotD).length : Int) z hz.1 (fun ds e d hd => (hz.2 ds (.inl e) d hd).1)
      rw [e2] at h2
      simp only [netD] at h1
      simp at h2
      simp [startA, h1, h2]
theorem s_ancestors_ok {m : Nat} (h : 6 ≤ m) (g : Bool) (st : Store) {N : List (List Int)} {lot : List Int} (hN : Net N) (hL : UpF N.length (-1) lot) : D g "ancestors_of" m [.d (netD N), .d (lotD lot)] st = .ok (.d (lotD (ancF N lot))) st := by
  obtain ⟨k, rfl⟩ := up2 (m := m) (by omega)
  rw [u_ancestors_of]
  have h1 := s_made_net (m := k + 1) (by omega) g st (netD N) (nd3_net N)
  rw [netForm_none.mpr ⟨N, rfl, hN⟩] at h1
  have h2 := s_asked_lot (m := k + 1) (by omega) g st (N.length : Int) (lotD lot) rfl (fun ds e d hd => by
    cases e
    obtain ⟨i, _, rfl⟩ := List.mem_map.mp hd
    rfl)
  rw [lotForm_none.mpr ⟨lot, rfl, hL⟩] at h2
  have h3 := s_above (m := k + 1) (lot := lot) (by omega) g st (by have := hN.len; omega) hN.w (by have := hL.len'; have := hN.len; omega)
  have hn : gLen st [.d (netD N)] = some (.d (.int N.length)) := by simp [netD]
  simp [startA, h1, hn, h2, h3]
  rfl
end NL
end
section
set_option Elab.async false
set_option linter.all false
set_option maxRecDepth 100000
set_option maxHeartbeats 1000000
/-! Plain: the law's own ancestors; moral links. -/
namespace NL
open PySem PySem.Spec PyProof.Rows L2

theorem lab_body {m : Nat} {g : Bool} {st : Store} {N : List (List Int)} {v : Nat} {ks : List Int} {z : AV} {x : Option AV} (hv : v < N.length) (hW : ∀ l ∈ N, l.length ≤ 64) (hk : ks.length + 64 ≤ 16777216) :
    b0_law_nk_ancestors g m [some (.d (netD N)), some z, some (.r st.length), some (.d (.int (v : Int))), x] (st ++ [.d (dI ks)]) = .ok (.nx [some (.d (netD N)), some z, some (.r st.length), some (.d (.int (v : Int))), x]) (st ++ [.d (dI (stepA N ks v))]) := by
  rw [xb0_law_nk_ancestors]
  by_cases h : (v : Int) ∈ ks
  · have hl := atN_len hW v
    have h2 := len_insAll (atN N v) ([] : List Int)
    simp only [List.length_nil] at h2
    simp [in_dI, h, ty_dict]
    rw [nlc_kv (l := atN N v) (by simp) (by simp [net_at hv, lot_src]) (by omega)]
    simp [hdk, up_dI st ks _ (show ks.length + (insAll [] (atN N v)).length ≤ 16777216 by omega)]
    unfold stepA
    rw [if_pos h]
  · simp [in_dI, h]
    unfold stepA
    rw [if_neg h]
theorem lab_loop {m : Nat} {g : Bool} {st : Store} {N : List (List Int)} {z : AV} (hW : ∀ l ∈ N, l.length ≤ 64) : ∀ (k : Nat) (ks : List Int) (x y : Option AV), k ≤ N.length → ks.length + 64 * k ≤ 16777216 →
    ∃ x', forL (gNm 3) (b0_law_nk_ancestors g m) ((dn k).map fun (v : Nat) => AV.d (.int (v : Int))) [some (.d (netD N)), some z, some (.r st.length), x, y] (st ++ [.d (dI ks)]) = .ok (.nx [some (.d (netD N)), some z, some (.r st.length), x', y]) (st ++ [.d (dI ((dn k).foldl (stepA N) ks))])
  | 0, ks, x, y, _, _ => ⟨_, rfl⟩
  | k + 1, ks, x, y, hk, hl => by
    have h1 := len_stepA hW ks k
    obtain ⟨x', ih⟩ := lab_loop (st := st) (g := g) (m := m) (z := z) hW k (stepA N ks k) (some (.d (.int (k : Int)))) y (by omega) (by omega)
    refine ⟨x', ?_⟩
    rw [dn, List.map_cons, List.foldl_cons]
    unfold forL
    simp only [g_nm, List.set_cons_succ, List.set_cons_zero]
    rw [lab_body (by omega) hW (by omega)]
    exact ih
theorem s_law_ancestors {m : Nat} (h : 2 ≤ m) (g : Bool) (st : Store) {N : List (List Int)} {lot : List Int} (hN : N.length ≤ 64) (hW : ∀ l ∈ N, l.length ≤ 64) (hL : lot.length ≤ 64) : D g "_law_nk_ancestors" m [.d (netD N), .d (lotD lot)] st = .ok (.d (lotD (ancF N lot))) st := by
  obtain ⟨k, rfl⟩ := up2 (m := m) (by omega)
  rw [u_law_nk_ancestors]
  have h0 := len_insAll lot ([] : List Int)
  simp only [List.length_nil] at h0
  obtain ⟨x', loop⟩ := lab_loop (m := k + 1) (g := g) (st := st) (z := .d (lotD lot)) hW N.length (insAll [] lot) none none (Nat.le_refl _) (by omega)
  simp [startA, List.replicate]
  rw [nlc_kv (l := lot) (by simp) (by simp [lot_src]) (by omega)]
  simp [hdk]
  rw [for_xs _ _ _ (l := (dn N.length).map fun (v : Nat) => AV.d (.int (v : Int))) (s := st ++ [.d (dI (insAll [] lot))]) ?h1, loop]
  case h1 =>
    rw [srg3_ok (i := (N.length : Int) - 1) (j := -1) (s := st ++ [.d (dI (insAll [] lot))]) ?h2 (by omega) (by omega)]
    case h2 => simp [netD]
    rw [show ((N.length : Int) - 1 - -1).toNat = N.length by omega, rgA_dn]
  simp [srtI, ancF, foundF, lotD]
end NL
end
section
set_option Elab.async false
set_option linter.all false
set_option maxRecDepth 100000
set_option maxHeartbeats 1000000
/-! Plain: moral links. -/
namespace NL
open PySem PySem.Spec PyProof.Rows L2

def famStep (ks : List (Int × Int)) : List Int → List (Int × Int)
  | [] => ks
  | a :: r => famStep (insAll ks (r.map fun o => (a, o))) r
theorem len_famStep : ∀ (r : List Int) (ks : List (Int × Int)), (famStep ks r).length ≤ ks.length + r.length * r.length
  | [], ks => by simp [famStep]
  | a :: r, ks => by
    have h1 := len_famStep r (insAll ks (r.map fun o => (a, o)))
    have h2 := len_insAll (r.map fun o => (a, o)) ks
    rw [List.length_map] at h2
    simp only [famStep, List.length_cons, Nat.add_mul, Nat.mul_add]
    omega
theorem cut_mid (pre r : List PyData) (a : PyData) : cutD (pre ++ a :: r) (some ((pre.length : Int) + 1)) none = r := by
  unfold cutD
  have e1 : HT.sIx (pre ++ a :: r).length 0 (some ((pre.length : Int) + 1)) = pre.length + 1 := by
    have := HT.sIx_nat (pre ++ a :: r).length 0 (pre.length + 1)
    rw [show (((pre.length + 1 : Nat)) : Int) = (pre.length : Int) + 1 by omega] at this
    rw [this]
    simp
  rw [e1, HT.sIx_none]
  have e2 : (pre ++ a :: r).drop (pre.length + 1) = r := by
    rw [List.drop_append]
    simp
  rw [e2]
  apply List.take_of_length_le
  simp
  omega
section
variable (st : Store)
theorem ty_dP (ks : List (Int × Int)) : tyS (st ++ [.d (dP ks)]) (.r st.length) = some "dict" := by
  simp only [tyS, get_last]
theorem up_dP (ks js : List (Int × Int)) (h : ks.length + js.length ≤ 16777216) (ha : apartB (js.map kP) = true) : mUpdate (st ++ [.d (dP ks)]) (.r st.length) [.c (dP js)] = some (.d .none, st ++ [.d (dP (insAll ks js))]) := by
  have e0 : mUpdK (st ++ [.d (dP ks)]) (.r st.length) [.c (dP js)] = none := by
    simp only [mUpdK, get_last, dcOf, dP]
  have e : mUpdT (st ++ [.d (dP ks)]) (.r st.length) [.c (dP js)] = some (.d .none, st ++ [.d (dP (insAll ks js))]) := by
    simp only [mUpdT, get_last, dcOf, dP, otherCell]
    rw [if_pos ⟨trivial, by rw [len_kv, len_kv, size_lit]; exact h, .inr (by
      have : (kv kP js).map (·.1) = js.map kP := by simp [kv]
      rw [this]; exact ha)⟩, merge_kv kP_inj, set_last]
  simp only [mUpdate, oneOfM, e0, e]
theorem len_dP (ks : List (Int × Int)) : gLen (st ++ [.d (dP ks)]) [.r st.length] = some (.d (.int ks.length)) := by
  simp only [gLen, oneOfC, gLen1, sq, vw, get_last, gLen2, dcOf, Option.map_some, Option.map_none]
  simp [dP, DC.len, len_kv]
end
theorem dtL_kv {turn : AV → Store → Out (Option (List Key × PyData))} {st : Store} {a : Int} : ∀ (l : List Int) (ks : List (Int × Int)), (∀ i ∈ l, turn (.d (.int i)) st = .ok (some (kP (a, i), .bool true)) st) → ks.length + l.length ≤ 16777216 →
    dtL turn (l.map fun i => .d (.int i)) (kv kP ks) st = .ok (kv kP (insAll ks (l.map fun o => (a, o)))) st
  | [], _, _, _ => rfl
  | i :: l, ks, h, hl => by
    have h1 := h i (List.mem_cons_self ..)
    rw [List.length_cons] at hl
    rw [List.map_cons]
    unfold dtL
    rw [h1, Out.bind_ok]
    show (if (kv kP ks).length < sizeLine then _ else _) = _
    rw [if_pos (by rw [len_kv, size_lit]; omega)]
    show dtL turn _ (putD (kv kP ks) (kP (a, i)) (.bool true)) st = _
    rw [put_kv kP_inj, dtL_kv l _ (fun j hj => h j (List.mem_cons_of_mem _ hj)) (by have := len_ins ks (a, i); omega)]
    rfl
theorem ndt_kv {src : FSrc} {j k : Nat} {e : Env} {st : Store} {l : List Int} {a : Int} (hj : j < e.length) (hk : e[k]? = some (some (.d (.int a)))) (hn : k ≠ j) (hs : src e st = .ok (.xs (l.map fun i => .d (.int i))) st) (hl : l.length ≤ 16777216) :
    nDt src (gNm j) tYes' (eTup (aCons (eVar k) (aCons (eVar j) aNil))) (eC (.bool true)) [j] e st = .ok (.d (dP (insAll [] (l.map fun o => (a, o))))) st := by
  rw [dt_xs _ _ _ _ _ _ hs]
  have := dtL_kv (turn := dtTurn (gNm j) tYes' (eTup (aCons (eVar k) (aCons (eVar j) aNil))) (eC (.bool true)) [j] e) (st := st) (a := a) l [] (fun i _ => ?_) (by simpa using hl)
  · rw [show (kv kP ([] : List (Int × Int))) = [] from rfl] at this
    rw [this]
    rfl
  · have hn' : ¬ j = k := fun z => hn z.symm
    simp [dtTurn, wipeA, quiet, hj, toKeys, toKeyL, toKey, kP, List.getElem?_set, hn', hk, two_size]
/-! the program's -/
theorem mor_inner {m : Nat} {g : Bool} {st : Store} {A B C : Option AV} : ∀ (r pre : List Int) (ks : List (Int × Int)) (x y z : Option AV), (pre ++ r).Nodup → (∀ o ∈ r, 0 ≤ o ∧ o < 64) → ks.length + r.length * r.length ≤ 16777216 →
    ∃ x' y', forL (gUn [5, 6]) (b1_moral_web g m) (enF pre.length (r.map .int)) [A, B, some (.r st.length), C, some (.d (.list ((pre ++ r).map .int))), x, y, z] (st ++ [.d (dP ks)]) = .ok (.nx [A, B, some (.r st.length), C, some (.d (.list ((pre ++ r).map .int))), x', y', z]) (st ++ [.d (dP (famStep ks r))])
  | [], pre, ks, x, y, z, _, _, _ => ⟨_, _, rfl⟩
  | a :: r, pre, ks, x, y, z, nd, hr, hl => by
    have hl1 : (r.length + 1) * (r.length + 1) = r.length * r.length + r.length + r.length + 1 := by
      simp only [Nat.add_mul, Nat.mul_add]; omega
    simp only [List.length_cons] at hl
    have h2 := len_insAll (r.map fun o => (a, o)) ks
    rw [List.length_map] at h2
    have ndr : r.Nodup := by
      have := (List.nodup_append.mp nd).2.1
      exact (List.nodup_cons.mp this).2
    have e : insAll [] (r.map fun o => (a, o)) = r.map fun o => (a, o) := by
      have := ins_nodup (r.map fun o => (a, o)) [] (by simp) (by
        rw [List.Nodup, List.pairwise_map]
        exact List.Pairwise.imp (fun h z => h (by simpa using z)) ndr)
      simpa using this
    obtain ⟨x', y', ih⟩ := mor_inner (g := g) (m := m) (st := st) (A := A) (B := B) (C := C) r (pre ++ [a]) (insAll ks (r.map fun o => (a, o))) (some (.d (.int (pre.length : Int)))) (some (.d (.int a))) z (by simpa using nd) (fun o ho => hr o (List.mem_cons_of_mem _ ho)) (by omega)
    refine ⟨x', y', ?_⟩
    rw [List.map_cons, enF]
    unfold forL
    simp only [g_un, List.length_cons, List.length_nil]
    simp [xb1_moral_web, ty_dP]
    rw [ndt_kv (l := r) (a := a) (by simp) (by simp) (by omega) ?hs (by omega), e]
    case hs =>
      have := cut_mid (pre.map PyData.int) (r.map PyData.int) (.int a)
      simp at this
      simp [fSl, this]
    have hap : apartB ((r.map fun o => (a, o)).map kP) = true := by
      have := apart_pairs (hr a (List.mem_cons_self ..)) (fun o ho => hr o (List.mem_cons_of_mem _ ho)) ndr
      rw [List.map_map]
      exact this
    simp [up_dP st ks (r.map fun o => (a, o)) (by rw [List.length_map]; omega) hap]
    rw [show famStep ks (a :: r) = famStep (insAll ks (r.map fun o => (a, o))) r from rfl]
    simpa using ih
/-! families -/
def famOf (N : List (List Int)) (v : Int) : List Int := atN N v.toNat ++ [v]
def linksF (N : List (List Int)) (anc : List Int) : List (Int × Int) := anc.foldl (fun ks v => famStep ks (famOf N v)) []
def InN (N : List (List Int)) (v : Int) : Prop := 0 ≤ v ∧ v < N.length
theorem fam_ok {N : List (List Int)} (hN : Net N) {v : Int} (hv : InN N v) : (famOf N v).Pairwise (· < ·) ∧ (∀ o ∈ famOf N v, 0 ≤ o ∧ o ≤ v) ∧ (famOf N v).length ≤ 40 := by
  have hu := hN.up v.toNat (by have := hv.1; have := hv.2; omega)
  rw [Int.toNat_of_nonneg hv.1] at hu
  have hl : (atN N v.toNat).length ≤ 39 := by
    by_cases e : atN N v.toNat = []
    · rw [e]; simp
    · have := hu.len e
      have := hv.2
      have := hN.len
      omega
  refine ⟨?_, fun o ho => ?_, by unfold famOf; rw [List.length_append, List.length_singleton]; omega⟩
  · unfold famOf
    rw [List.pairwise_append]
    refine ⟨hu.sorted, List.pairwise_singleton _ _, fun a ha b hb => ?_⟩
    rw [List.mem_singleton.mp hb]
    have := (hu.lt a ha).2
    omega
  · unfold famOf at ho
    rcases List.mem_append.mp ho with ho | ho
    · have := hu.lt o ho
      omega
    · rw [List.mem_singleton.mp ho]
      exact ⟨hv.1, Int.le_refl _⟩
theorem nodup_lt {l : List Int} (h : l.Pairwise (· < ·)) : l.Nodup := List.Pairwise.imp (fun h => by omega) h
theorem mor_outer {m : Nat} {g : Bool} {st : Store} {N : List (List Int)} {B : Option AV} (hN : Net N) : ∀ (anc : List Int) (ks : List (Int × Int)) (w1 w2 w3 w4 w5 : Option AV), (∀ v ∈ anc, InN N v) → ks.length + anc.length * 1600 ≤ 16777216 →
    ∃ u1 u2 u3 u4 u5, forL (gNm 3) (b0_moral_web g m) (anc.map fun i => .d (.int i)) [some (.d (netD N)), B, some (.r st.length), w1, w2, w3, w4, w5] (st ++ [.d (dP ks)]) = .ok (.nx [some (.d (netD N)), B, some (.r st.length), u1, u2, u3, u4, u5]) (st ++ [.d (dP (anc.foldl (fun ks v => famStep ks (famOf N v)) ks))])
  | [], ks, w1, w2, w3, w4, w5, _, _ => ⟨_, _, _, _, _, rfl⟩
  | v :: anc, ks, w1, w2, w3, w4, w5, hv, hl => by
    have hv0 := hv v (List.mem_cons_self ..)
    obtain ⟨f1, f2, f3⟩ := fam_ok hN hv0
    rw [List.length_cons] at hl
    have h1 := len_famStep (famOf N v) ks
    have h2 : (famOf N v).length * (famOf N v).length ≤ 40 * 40 := Nat.mul_le_mul f3 f3
    have hlen := hN.len
    obtain ⟨x', y', inner⟩ := mor_inner (g := g) (m := m) (st := st) (A := some (.d (netD N))) (B := B) (C := some (.d (.int v))) (famOf N v) [] ks w3 w4 w5 (by simpa using nodup_lt f1) (fun o ho => by
      have := f2 o ho
      have := hv0.2
      omega) (by omega)
    obtain ⟨a1, a2, a3, a4, a5, ih⟩ := mor_outer (g := g) (m := m) (st := st) (N := N) (B := B) hN anc (famStep ks (famOf N v)) (some (.d (.int v))) (some (.d (.list ((famOf N v).map .int)))) x' y' w5 (fun u hu => hv u (List.mem_cons_of_mem _ hu)) (by omega)
    refine ⟨a1, a2, a3, a4, a5, ?_⟩
    rw [List.map_cons, List.foldl_cons]
    unfold forL
    simp only [g_nm, List.set_cons_succ, List.set_cons_zero]
    have ev : v = ((v.toNat : Nat) : Int) := (Int.toNat_of_nonneg hv0.1).symm
    have hat : ∀ s, fSub1 s (.d (netD N)) (.d (.int v)) = some (.d (lotD (atN N v.toNat))) := fun s => by
      rw [ev]
      simp only [Int.toNat_natCast]
      exact net_at (by have := hv0.1; have := hv0.2; omega) s
    have hf : ((atN N v.toNat).map PyData.int ++ [PyData.int v]) = (famOf N v).map .int := by simp [famOf]
    have hd : dats (List.map (AV.d ∘ PyData.int) (atN N v.toNat) ++ [AV.d (.int v)]) = some ((famOf N v).map .int) := by
      rw [← List.map_map, dats_app, ← hf]
      rfl
    have hz : (famOf N v).length ≤ sizeLine := by rw [size_lit]; omega
    rw [xb0_moral_web]
    simp [hat, lotD, sq, hd, hz]
    rw [for_xs _ _ _ (l := enF 0 ((famOf N v).map .int)) (s := st ++ [.d (dP ks)]) ?h1]
    case h1 => simp [enA_eq]
    simp at inner
    rw [inner]
    exact ih
end NL
end
section
set_option Elab.async false
set_option linter.all false
set_option maxRecDepth 100000
set_option maxHeartbeats 1000000
/-! Plain: closures. -/
namespace NL
open PySem PySem.Spec PyProof.Rows L2

inductive Cl (N : List (List Int)) (lot : List Int) : Int → Prop
  | base {x : Int} : x ∈ lot → Cl N lot x
  | step {v x : Int} : Cl N lot v → x ∈ atN N v.toNat → Cl N lot x
structure InvA (N : List (List Int)) (lot : List Int) (k : Nat) (ks : List Int) : Prop where
  sup : ∀ x ∈ lot, x ∈ ks
  sub : ∀ x ∈ ks, Cl N lot x
  clo : ∀ v : Nat, k ≤ v → v < N.length → (v : Int) ∈ ks → ∀ x ∈ atN N v, x ∈ ks
  nd : ks.Nodup
theorem found_inv {N : List (List Int)} (hN : Net N) {lot : List Int} : ∀ (k : Nat) (ks : List Int), k ≤ N.length → InvA N lot k ks → InvA N lot 0 ((dn k).foldl (stepA N) ks)
  | 0, ks, _, h => h
  | k + 1, ks, hk, h => by
    rw [dn, List.foldl_cons]
    refine found_inv hN k _ (by omega) ?_
    unfold stepA
    split
    · rename_i m
      refine ⟨fun x hx => mem_insAll.mpr (.inl (h.sup x hx)), fun x hx => ?_, fun v h1 h2 hv x hx => ?_, nd_insAll h.nd⟩
      · rcases mem_insAll.mp hx with hx | hx
        · exact h.sub x hx
        · rcases mem_insAll.mp hx with hx | hx
          · cases hx
          · exact .step (h.sub _ m) (by simpa using hx)
      · rcases Nat.eq_or_lt_of_le h1 with e | e
        · subst e
          exact mem_insAll.mpr (.inr (mem_insAll.mpr (.inr hx)))
        · refine mem_insAll.mpr (.inl (h.clo v (by omega) h2 ?_ x hx))
          rcases mem_insAll.mp hv with hv | hv
          · exact hv
          · rcases mem_insAll.mp hv with hv | hv
            · cases hv
            · have := (hN.up k (by omega)).lt _ hv
              omega
    · rename_i m
      refine ⟨h.sup, h.sub, fun v h1 h2 hv x hx => ?_, h.nd⟩
      rcases Nat.eq_or_lt_of_le h1 with e | e
      · subst e; exact absurd hv m
      · exact h.clo v (by omega) h2 hv x hx
theorem found_ok {N : List (List Int)} (hN : Net N) (lot : List Int) : InvA N lot 0 (foundF N lot) := by
  refine found_inv hN N.length _ (Nat.le_refl _) ⟨fun x hx => mem_insAll.mpr (.inr hx), fun x hx => ?_, fun v h1 h2 => by omega, nd_insAll List.nodup_nil⟩
  rcases mem_insAll.mp hx with hx | hx
  · cases hx
  · exact .base hx
theorem cl_in {N : List (List Int)} (hN : Net N) {lot : List Int} (hL : ∀ x ∈ lot, InN N x) {x : Int} (h : Cl N lot x) : InN N x := by
  induction h with
  | base h => exact hL _ h
  | step _ hx ih =>
    have := (hN.up _ (by have := ih.1; have := ih.2; omega)).lt _ hx
    have := ih.1
    have := ih.2
    exact ⟨by omega, by omega⟩
theorem mem_found {N : List (List Int)} (hN : Net N) {lot : List Int} (hL : ∀ x ∈ lot, InN N x) {x : Int} : x ∈ foundF N lot ↔ Cl N lot x := by
  have I := found_ok hN lot
  refine ⟨I.sub x, fun h => ?_⟩
  induction h with
  | base h => exact I.sup _ h
  | step hv hx ih =>
    have hi := cl_in hN hL hv
    exact I.clo _ (by omega) (by have := hi.1; have := hi.2; omega) (by rw [Int.toNat_of_nonneg hi.1]; exact ih) _ hx
theorem mem_sortI {l : List Int} {x : Int} : x ∈ sortI l ↔ x ∈ l := List.mem_mergeSort
theorem mem_anc {N : List (List Int)} (hN : Net N) {lot : List Int} (hL : ∀ x ∈ lot, InN N x) {x : Int} : x ∈ ancF N lot ↔ Cl N lot x := by
  unfold ancF
  rw [mem_sortI, mem_found hN hL]
theorem sortI_lt {l : List Int} (h : l.Nodup) : (sortI l).Pairwise (· < ·) := by
  have h1 : (sortI l).Pairwise (fun a b => decide (a ≤ b) = true) := List.pairwise_mergeSort (fun a b c h1 h2 => by simp at *; omega) (fun a b => by simp; omega) l
  have h2 : (sortI l).Nodup := (List.mergeSort_perm l _).nodup_iff.mpr h
  refine (h1.and h2).imp fun {a b} h => ?_
  have := of_decide_eq_true h.1
  have := h.2
  omega
theorem sorted_ext : ∀ {l m : List Int}, l.Pairwise (· < ·) → m.Pairwise (· < ·) → (∀ x, x ∈ l ↔ x ∈ m) → l = m
  | [], [], _, _, _ => rfl
  | [], b :: m, _, _, h => absurd ((h b).mpr (List.mem_cons_self ..)) (by simp)
  | a :: l, [], _, _, h => absurd ((h a).mp (List.mem_cons_self ..)) (by simp)
  | a :: l, b :: m, hl, hm, h => by
    rw [List.pairwise_cons] at hl hm
    have e : a = b := by
      rcases List.mem_cons.mp ((h a).mp (List.mem_cons_self ..)) with q | q
      · exact q
      · rcases List.mem_cons.mp ((h b).mpr (List.mem_cons_self ..)) with q2 | q2
        · exact q2.symm
        · have := hl.1 b q2
          have := hm.1 a q
          omega
    subst e
    rw [sorted_ext hl.2 hm.2 fun x => ?_]
    constructor
    · intro hx
      rcases List.mem_cons.mp ((h x).mp (List.mem_cons_of_mem _ hx)) with q | q
      · subst q; have := hl.1 x hx; omega
      · exact q
    · intro hx
      rcases List.mem_cons.mp ((h x).mpr (List.mem_cons_of_mem _ hx)) with q | q
      · subst q; have := hm.1 x hx; omega
      · exact q
theorem anc_lt {N : List (List Int)} (hN : Net N) (lot : List Int) : (ancF N lot).Pairwise (· < ·) := sortI_lt (found_ok hN lot).nd
theorem up_in {n : Nat} {N : List (List Int)} (h : N.length = n) {l : List Int} (hu : UpF n (-1) l) : ∀ x ∈ l, InN N x := fun x hx => by
  have := hu.lt x hx
  exact ⟨by omega, by omega⟩
theorem anc_up {N : List (List Int)} (hN : Net N) {lot : List Int} (hL : ∀ x ∈ lot, InN N x) : UpF N.length (-1) (ancF N lot) :=
  up_of (anc_lt hN lot) fun x hx => by
    have := cl_in hN hL ((mem_anc hN hL).mp hx)
    exact ⟨by have := this.1; omega, by have := this.2; omega⟩
theorem cl_mono {N : List (List Int)} {l m : List Int} (h : ∀ x ∈ l, Cl N m x) {x : Int} (c : Cl N l x) : Cl N m x := by
  induction c with
  | base hx => exact h _ hx
  | step _ hx ih => exact .step ih hx
/-- of itself itself -/
theorem anc_anc {N : List (List Int)} (hN : Net N) {lot : List Int} (hL : ∀ x ∈ lot, InN N x) : ancF N (ancF N lot) = ancF N lot := by
  have hA : ∀ x ∈ ancF N lot, InN N x := fun x hx => cl_in hN hL ((mem_anc hN hL).mp hx)
  refine sorted_ext (anc_lt hN _) (anc_lt hN _) fun x => ?_
  rw [mem_anc hN hA, mem_anc hN hL]
  exact ⟨cl_mono fun y hy => (mem_anc hN hL).mp hy, fun h => .base ((mem_anc hN hL).mpr h)⟩
/-- two lots joined -/
def joinF (a b : List Int) : List Int := sortI (insAll [] (a ++ b))
theorem mem_join {a b : List Int} {x : Int} : x ∈ joinF a b ↔ x ∈ a ∨ x ∈ b := by
  unfold joinF
  rw [mem_sortI, mem_insAll]
  simp
theorem join_lt (a b : List Int) : (joinF a b).Pairwise (· < ·) := sortI_lt (nd_insAll List.nodup_nil)
theorem join_in {N : List (List Int)} {a b : List Int} (ha : ∀ x ∈ a, InN N x) (hb : ∀ x ∈ b, InN N x) : ∀ x ∈ joinF a b, InN N x := fun x hx => (mem_join.mp hx).elim (ha x) (hb x)
theorem in_up {N : List (List Int)} {l : List Int} (h : ∀ x ∈ l, InN N x) (hl : l.Pairwise (· < ·)) : UpF N.length (-1) l :=
  up_of hl fun x hx => ⟨by have := (h x hx).1; omega, by have := (h x hx).2; omega⟩
theorem anc_join {N : List (List Int)} (hN : Net N) {a b : List Int} (ha : ∀ x ∈ a, InN N x) (hb : ∀ x ∈ b, InN N x) : ancF N (joinF a b) = joinF (ancF N a) (ancF N b) := by
  refine sorted_ext (anc_lt hN _) (join_lt _ _) fun x => ?_
  rw [mem_anc hN (join_in ha hb), mem_join, mem_anc hN ha, mem_anc hN hb]
  constructor
  · intro h
    induction h with
    | base h => exact (mem_join.mp h).imp .base .base
    | step _ hx ih => exact ih.imp (fun z => .step z hx) fun z => .step z hx
  · rintro (h | h)
    · exact cl_mono (fun y hy => .base (mem_join.mpr (.inl hy))) h
    · exact cl_mono (fun y hy => .base (mem_join.mpr (.inr hy))) h
theorem anc_sub {N : List (List Int)} (hN : Net N) {a b : List Int} (ha : ∀ x ∈ a, InN N x) (hb : ∀ x ∈ b, InN N x) {x : Int} (h : x ∈ ancF N a) : x ∈ ancF N (joinF a b) := by
  rw [mem_anc hN (join_in ha hb)]
  exact cl_mono (fun y hy => .base (mem_join.mpr (.inl hy))) ((mem_anc hN ha).mp h)
/-! the links -/
theorem mem_famStep {p : Int × Int} : ∀ {r : List Int} {ks : List (Int × Int)}, r.Pairwise (· < ·) → (p ∈ famStep ks r ↔ p ∈ ks ∨ p.1 ∈ r ∧ p.2 ∈ r ∧ p.1 < p.2)
  | [], ks, _ => by simp [famStep]
  | a :: r, ks, h => by
    rw [List.pairwise_cons] at h
    show p ∈ famStep _ r ↔ _
    rw [mem_famStep h.2, mem_insAll]
    obtain ⟨x, y⟩ := p
    simp only [List.mem_map, Prod.mk.injEq, List.mem_cons]
    constructor
    · rintro ((h1 | ⟨o, ho, rfl, rfl⟩) | ⟨h1, h2, h3⟩)
      · exact .inl h1
      · exact .inr ⟨.inl rfl, .inr ho, h.1 _ ho⟩
      · exact .inr ⟨.inr h1, .inr h2, h3⟩
    · rintro (h1 | ⟨h1 | h1, h2 | h2, h3⟩)
      · exact .inl (.inl h1)
      · omega
      · exact .inl (.inr ⟨y, h2, h1.symm, rfl⟩)
      · have := h.1 _ h1
        omega
      · exact .inr ⟨h1, h2, h3⟩
theorem nd_famStep : ∀ {r : List Int} {ks : List (Int × Int)}, ks.Nodup → (famStep ks r).Nodup
  | [], _, h => h
  | a :: r, ks, h => nd_famStep (r := r) (nd_insAll h)
theorem mem_links_aux {N : List (List Int)} (hN : Net N) {p : Int × Int} : ∀ {anc : List Int} {ks : List (Int × Int)}, (∀ v ∈ anc, InN N v) → (p ∈ anc.foldl (fun ks v => famStep ks (famOf N v)) ks ↔ p ∈ ks ∨ p.1 < p.2 ∧ ∃ v ∈ anc, p.1 ∈ famOf N v ∧ p.2 ∈ famOf N v)
  | [], ks, _ => by simp
  | v :: anc, ks, h => by
    rw [List.foldl_cons, mem_links_aux hN fun u hu => h u (List.mem_cons_of_mem _ hu), mem_famStep (fam_ok hN (h v (List.mem_cons_self ..))).1]
    constructor
    · rintro ((h1 | ⟨h1, h2, h3⟩) | ⟨h1, u, hu, h2⟩)
      · exact .inl h1
      · exact .inr ⟨h3, v, List.mem_cons_self .., h1, h2⟩
      · exact .inr ⟨h1, u, List.mem_cons_of_mem _ hu, h2⟩
    · rintro (h1 | ⟨h1, u, hu, h2⟩)
      · exact .inl (.inl h1)
      · rcases List.mem_cons.mp hu with rfl | hu
        · exact .inl (.inr ⟨h2.1, h2.2, h1⟩)
        · exact .inr ⟨h1, u, hu, h2⟩
theorem mem_links {N : List (List Int)} (hN : Net N) {p : Int × Int} {anc : List Int} (h : ∀ v ∈ anc, InN N v) : p ∈ linksF N anc ↔ p.1 < p.2 ∧ ∃ v ∈ anc, p.1 ∈ famOf N v ∧ p.2 ∈ famOf N v := by
  unfold linksF
  rw [mem_links_aux hN h]
  simp
theorem nd_links {N : List (List Int)} : ∀ {anc : List Int} {ks : List (Int × Int)}, ks.Nodup → (anc.foldl (fun ks v => famStep ks (famOf N v)) ks).Nodup
  | [], _, h => h
  | v :: anc, ks, h => nd_links (anc := anc) (nd_famStep h)
/-- the moral links, rising -/
def morF (N : List (List Int)) (lot : List Int) : List (Int × Int) := sortP (linksF N (ancF N lot))
theorem ltP_iff {p q : Int × Int} : ltP p q = true ↔ p.1 < q.1 ∨ p.1 = q.1 ∧ p.2 < q.2 := decide_eq_true_iff
theorem mem_sortP {l : List (Int × Int)} {x : Int × Int} : x ∈ sortP l ↔ x ∈ l := List.mem_mergeSort
theorem sortP_lt {l : List (Int × Int)} (h : l.Nodup) : (sortP l).Pairwise (fun p q => ltP p q = true) := by
  have h1 : (sortP l).Pairwise (fun a b => (!ltP b a) = true) := List.pairwise_mergeSort (fun a b c h1 h2 => by
    rw [Bool.not_eq_true'] at *
    rw [Bool.eq_false_iff] at *
    rw [Ne, ltP_iff] at *
    omega) (fun a b => by
    rw [Bool.or_eq_true, Bool.not_eq_true', Bool.not_eq_true', Bool.eq_false_iff, Bool.eq_false_iff, Ne, Ne, ltP_iff, ltP_iff]
    omega) l
  have h2 : (sortP l).Nodup := (List.mergeSort_perm l _).nodup_iff.mpr h
  refine (h1.and h2).imp fun {a b} h => ?_
  obtain ⟨h1, h2⟩ := h
  rw [Bool.not_eq_true', Bool.eq_false_iff, Ne, ltP_iff] at h1
  rw [ltP_iff]
  obtain ⟨a1, a2⟩ := a
  obtain ⟨b1, b2⟩ := b
  have : ¬ (a1 = b1 ∧ a2 = b2) := fun z => h2 (by rw [z.1, z.2])
  simp only at *
  omega
theorem sortedP_ext : ∀ {l m : List (Int × Int)}, l.Pairwise (fun p q => ltP p q = true) → m.Pairwise (fun p q => ltP p q = true) → (∀ x, x ∈ l ↔ x ∈ m) → l = m
  | [], [], _, _, _ => rfl
  | [], b :: m, _, _, h => absurd ((h b).mpr (List.mem_cons_self ..)) (by simp)
  | a :: l, [], _, _, h => absurd ((h a).mp (List.mem_cons_self ..)) (by simp)
  | a :: l, b :: m, hl, hm, h => by
    rw [List.pairwise_cons] at hl hm
    have no : ∀ {p q : Int × Int}, ltP p q = true → ltP q p = true → False := fun h1 h2 => by
      rw [ltP_iff] at h1 h2
      omega
    have e : a = b := by
      rcases List.mem_cons.mp ((h a).mp (List.mem_cons_self ..)) with q | q
      · exact q
      · rcases List.mem_cons.mp ((h b).mpr (List.mem_cons_self ..)) with q2 | q2
        · exact q2.symm
        · exact (no (hl.1 b q2) (hm.1 a q)).elim
    subst e
    rw [sortedP_ext hl.2 hm.2 fun x => ?_]
    constructor
    · intro hx
      rcases List.mem_cons.mp ((h x).mp (List.mem_cons_of_mem _ hx)) with q | q
      · subst q; exact (no (hl.1 x hx) (hl.1 x hx)).elim
      · exact q
    · intro hx
      rcases List.mem_cons.mp ((h x).mpr (List.mem_cons_of_mem _ hx)) with q | q
      · subst q; exact (no (hm.1 x hx) (hm.1 x hx)).elim
      · exact q
theorem mor_lt (N : List (List Int)) (lot : List Int) : (morF N lot).Pairwise (fun p q => ltP p q = true) := sortP_lt (nd_links List.nodup_nil)
theorem anc_in {N : List (List Int)} (hN : Net N) {lot : List Int} (hL : ∀ x ∈ lot, InN N x) : ∀ v ∈ ancF N lot, InN N v := fun v hv => cl_in hN hL ((mem_anc hN hL).mp hv)
theorem mem_mor {N : List (List Int)} (hN : Net N) {lot : List Int} (hL : ∀ x ∈ lot, InN N x) {p : Int × Int} : p ∈ morF N lot ↔ p.1 < p.2 ∧ ∃ v, Cl N lot v ∧ p.1 ∈ famOf N v ∧ p.2 ∈ famOf N v := by
  unfold morF
  rw [mem_sortP, mem_links hN (anc_in hN hL)]
  simp only [mem_anc hN hL]
end NL
end
section
set_option Elab.async false
set_option linter.all false
set_option maxRecDepth 100000
set_option maxHeartbeats 1000000
/-! Plain: moral webs told. -/
namespace NL
open PySem PySem.Spec PyProof.Rows L2

def linksD (L : List (Int × Int)) : PyData := .tuple (L.map pairD)
def webD (n : Nat) (L : List (Int × Int)) : PyData := .tuple [.int n, linksD L]
theorem len_mor (N : List (List Int)) (lot : List Int) : (morF N lot).length = (linksF N (ancF N lot)).length := by
  unfold morF sortP
  exact List.length_mergeSort _
theorem anc_len {N : List (List Int)} (hN : Net N) {lot : List Int} (hL : ∀ x ∈ lot, InN N x) : (ancF N lot).length ≤ 40 := by
  have := (anc_up hN hL).len'
  have := hN.len
  omega
theorem len_links {N : List (List Int)} (hN : Net N) : ∀ (anc : List Int) (ks : List (Int × Int)), (∀ v ∈ anc, InN N v) → (anc.foldl (fun ks v => famStep ks (famOf N v)) ks).length ≤ ks.length + anc.length * 1600
  | [], ks, _ => by simp
  | v :: anc, ks, h => by
    rw [List.foldl_cons, List.length_cons]
    have h1 := len_links hN anc (famStep ks (famOf N v)) fun u hu => h u (List.mem_cons_of_mem _ hu)
    have h2 := len_famStep (famOf N v) ks
    have h3 := (fam_ok hN (h v (List.mem_cons_self ..))).2.2
    have h4 : (famOf N v).length * (famOf N v).length ≤ 40 * 40 := Nat.mul_le_mul h3 h3
    omega
theorem mor_len {N : List (List Int)} (hN : Net N) {lot : List Int} (hL : ∀ x ∈ lot, InN N x) : (morF N lot).length ≤ 64000 := by
  rw [len_mor]
  unfold linksF
  have h1 := len_links hN (ancF N lot) [] (anc_in hN hL)
  have h2 := anc_len hN hL
  have : (ancF N lot).length * 1600 ≤ 40 * 1600 := Nat.mul_le_mul_right _ h2
  simp only [List.length_nil] at h1
  omega
theorem s_moral_ok {m : Nat} (h : 6 ≤ m) (g : Bool) (st : Store) {N : List (List Int)} {lot : List Int} (hN : Net N) (hL : UpF N.length (-1) lot) : D g "moral_web" m [.d (netD N), .d (lotD lot)] st =
    if 400 < (morF N lot).length then .exc "TooMany" (.int (morF N lot).length) st else .ok (.d (webD N.length (morF N lot))) st := by
  obtain ⟨k, rfl⟩ := up2 (m := m) (by omega)
  rw [u_moral_web]
  have hI := up_in rfl hL
  have h1 := s_made_net (m := k + 1) (by omega) g st (netD N) (nd3_net N)
  rw [netForm_none.mpr ⟨N, rfl, hN⟩] at h1
  have h2 := s_asked_lot (m := k + 1) (by omega) g st (N.length : Int) (lotD lot) rfl (fun ds e d hd => by
    cases e
    obtain ⟨i, _, rfl⟩ := List.mem_map.mp hd
    rfl)
  rw [lotForm_none.mpr ⟨lot, rfl, hL⟩] at h2
  have h3 := fun st => s_above (m := k + 1) (lot := lot) (by omega) g st (by have := hN.len; omega) hN.w (by have := hL.len'; have := hN.len; omega)
  have hn : ∀ st, gLen st [.d (netD N)] = some (.d (.int N.length)) := fun st => by simp [netD]
  have ha := anc_len hN hI
  obtain ⟨u1, u2, u3, u4, u5, loop⟩ := mor_outer (m := k + 1) (g := g) (st := st) (B := some (.d (lotD lot))) hN (ancF N lot) [] none none none none none (anc_in hN hI) (by
    have : (ancF N lot).length * 1600 ≤ 40 * 1600 := Nat.mul_le_mul_right _ ha
    simp only [List.length_nil]
    omega)
  have e0 : Cell.d (.t []) = Cell.d (dP []) := rfl
  simp [startA, h1, hn, h2, List.replicate]
  rw [e0]
  rw [for_xs _ _ _ (l := (ancF N lot).map fun i => .d (.int i)) (s := st ++ [.d (dP [])]) ?h1]
  case h1 =>
    simp [h3]
  rw [loop]
  have e1 : List.foldl (fun ks v => famStep ks (famOf N v)) [] (ancF N lot) = linksF N (ancF N lot) := rfl
  rw [e1]
  simp [len_dP]
  rw [len_mor]
  by_cases hl : 400 < (linksF N (ancF N lot)).length
  · have hl' : (400 : Int) < (linksF N (ancF N lot)).length := by omega
    simp [hl, hl']
  · have hl' : ¬ (400 : Int) < (linksF N (ancF N lot)).length := by omega
    simp [hl, hl', hn, srtP, two_size, webD, linksD, morF]
/-! the law's own -/
theorem add_t (st : Store) (xs ys : List PyData) (h : xs.length + ys.length ≤ 16777216) : fAdd st (.d (.tuple xs)) (.d (.tuple ys)) = some (.d (.tuple (xs ++ ys))) := by
  simp only [fAdd, oneOf, onI, catT, size_lit, if_pos h]
theorem pairs_t (a : Int) : ∀ l : List Int, pairsT (l.map fun o => PyData.tuple [.tuple [.int a, .int o], .bool true]) = some (kv kP (l.map fun o => (a, o)))
  | [] => rfl
  | i :: l => by
    rw [List.map_cons]
    unfold pairsT
    rw [pairs_t a l]
    rfl
theorem hdt (st : Store) (a : Int) (l : List Int) : hDictT st [.d (.list (l.map fun o => .tuple [.tuple [.int a, .int o], .bool true]))] = some (.d (dP (insAll [] (l.map fun o => (a, o))))) := by
  simp only [hDictT, gDictT, ls, vw, pairs_t, Option.map_some]
  rw [show ([] : List (List Key × PyData)) = kv kP [] from rfl, merge_kv kP_inj]
  rfl
theorem lmo_inner {m : Nat} {g : Bool} {st : Store} {A B C : Option AV} : ∀ (r pre : List Int) (ks : List (Int × Int)) (x y : Option AV), (pre ++ r).Nodup → (∀ o ∈ r, 0 ≤ o ∧ o < 64) → ks.length + r.length * r.length ≤ 16777216 → r.length ≤ 16777216 →
    ∃ x', forL (gNm 5) (b1_law_nk_moral_links g m) (rgF pre.length r.length) [A, B, some (.r st.length), C, some (.d (.tuple ((pre ++ r).map .int))), x, y] (st ++ [.d (dP ks)]) = .ok (.nx [A, B, some (.r st.length), C, some (.d (.tuple ((pre ++ r).map .int))), x', y]) (st ++ [.d (dP (famStep ks r))])
  | [], pre, ks, x, y, _, _, _, _ => ⟨_, rfl⟩
  | a :: r, pre, ks, x, y, nd, hr, hl, hl0 => by
    have hl1 : (r.length + 1) * (r.length + 1) = r.length * r.length + r.length + r.length + 1 := by
      simp only [Nat.add_mul, Nat.mul_add]; omega
    simp only [List.length_cons] at hl hl0
    have h2 := len_insAll (r.map fun o => (a, o)) ks
    rw [List.length_map] at h2
    have ndr : r.Nodup := by
      have := (List.nodup_append.mp nd).2.1
      exact (List.nodup_cons.mp this).2
    have e : insAll [] (r.map fun o => (a, o)) = r.map fun o => (a, o) := by
      have := ins_nodup (r.map fun o => (a, o)) [] (by simp) (by
        rw [List.Nodup, List.pairwise_map]
        exact List.Pairwise.imp (fun h z => h (by simpa using z)) ndr)
      simpa using this
    obtain ⟨x', ih⟩ := lmo_inner (g := g) (m := m) (st := st) (A := A) (B := B) (C := C) r (pre ++ [a]) (insAll ks (r.map fun o => (a, o))) (some (.d (.int (pre.length : Int)))) y (by simpa using nd) (fun o ho => hr o (List.mem_cons_of_mem _ ho)) (by omega) (by omega)
    refine ⟨x', ?_⟩
    rw [List.length_cons, rgF]
    unfold forL
    have cut : cutD ((pre ++ a :: r).map PyData.int) (some ((pre.length : Int) + 1)) none = r.map .int := by
      have := cut_mid (pre.map PyData.int) (r.map PyData.int) (.int a)
      simpa using this
    have att : atI ((pre ++ a :: r).map PyData.int) (pre.length : Int) = some (.int a) := by
      have := at_mid (pre.map PyData.int) (r.map PyData.int) (.int a)
      simpa using this
    have att : ∀ s, fSub1 s (.d (.tuple ((pre ++ a :: r).map PyData.int))) (.d (.int (pre.length : Int))) = some (.d (.int a)) := fun s => by rw [ix_t, att]; rfl
    have cut : ∀ s, fSl s (.d (.tuple ((pre ++ a :: r).map PyData.int))) (some ((pre.length : Int) + 1)) none = some (.d (.tuple (r.map .int))) := fun s => by simp only [fSl, vw, cut]
    have hap : apartB ((r.map fun o => (a, o)).map kP) = true := by
      have := apart_pairs (hr a (List.mem_cons_self ..)) (fun o ho => hr o (List.mem_cons_of_mem _ ho)) ndr
      rw [List.map_map]
      exact this
    generalize hT : PyData.tuple ((pre ++ a :: r).map PyData.int) = T at att cut ⊢
    simp only [g_nm, List.set_cons_succ, List.set_cons_zero]
    rw [xb1_law_nk_moral_links]
    simp [ty_dP]
    rw [nlc_fm (l := r.map fun i => .d (.int i)) (fun x => match x with
      | .d d => some (.tuple [.tuple [.int a, d], .bool true])
      | _ => none) ?h2 ?h3 (by simp; omega)]
    case h2 =>
      simp [cut]
    case h3 =>
      intro x hx
      obtain ⟨i, _, rfl⟩ := List.mem_map.mp hx
      simp [lcTurn, wipeA, quiet, two_size, att]
    have ef : (r.map fun i => AV.d (.int i)).filterMap (fun x => match x with
      | .d d => some (PyData.tuple [.tuple [.int a, d], .bool true])
      | _ => none) = r.map fun o => .tuple [.tuple [.int a, .int o], .bool true] := by
      rw [List.filterMap_map]
      exact List.filterMap_eq_map ▸ rfl
    rw [ef]
    simp [hdt, e, up_dP st ks (r.map fun o => (a, o)) (by rw [List.length_map]; omega) hap]
    rw [show famStep ks (a :: r) = famStep (insAll ks (r.map fun o => (a, o))) r from rfl]
    have e2 : pre ++ [a] ++ r = pre ++ a :: r := by simp
    rw [e2, hT] at ih
    simpa using ih
theorem lmo_outer {m : Nat} {g : Bool} {st : Store} {N : List (List Int)} {B : Option AV} (hN : Net N) : ∀ (anc : List Int) (ks : List (Int × Int)) (w1 w2 w3 w4 : Option AV), (∀ v ∈ anc, InN N v) → ks.length + anc.length * 1600 ≤ 16777216 →
    ∃ u1 u2 u3 u4, forL (gNm 3) (b0_law_nk_moral_links g m) (anc.map fun i => .d (.int i)) [some (.d (netD N)), B, some (.r st.length), w1, w2, w3, w4] (st ++ [.d (dP ks)]) = .ok (.nx [some (.d (netD N)), B, some (.r st.length), u1, u2, u3, u4]) (st ++ [.d (dP (anc.foldl (fun ks v => famStep ks (famOf N v)) ks))])
  | [], ks, w1, w2, w3, w4, _, _ => ⟨_, _, _, _, rfl⟩
  | v :: anc, ks, w1, w2, w3, w4, hv, hl => by
    have hv0 := hv v (List.mem_cons_self ..)
    obtain ⟨f1, f2, f3⟩ := fam_ok hN hv0
    rw [List.length_cons] at hl
    have h1 := len_famStep (famOf N v) ks
    have h2 : (famOf N v).length * (famOf N v).length ≤ 40 * 40 := Nat.mul_le_mul f3 f3
    have hlen := hN.len
    obtain ⟨x', inner⟩ := lmo_inner (g := g) (m := m) (st := st) (A := some (.d (netD N))) (B := B) (C := some (.d (.int v))) (famOf N v) [] ks w3 w4 (by simpa using nodup_lt f1) (fun o ho => by
      have := f2 o ho
      have := hv0.2
      omega) (by omega) (by omega)
    obtain ⟨a1, a2, a3, a4, ih⟩ := lmo_outer (g := g) (m := m) (st := st) (N := N) (B := B) hN anc (famStep ks (famOf N v)) (some (.d (.int v))) (some (.d (.tuple ((famOf N v).map .int)))) x' w4 (fun u hu => hv u (List.mem_cons_of_mem _ hu)) (by omega)
    refine ⟨a1, a2, a3, a4, ?_⟩
    rw [List.map_cons, List.foldl_cons]
    unfold forL
    simp only [g_nm, List.set_cons_succ, List.set_cons_zero]
    have ev : v = ((v.toNat : Nat) : Int) := (Int.toNat_of_nonneg hv0.1).symm
    have hat : ∀ s, fSub1 s (.d (netD N)) (.d (.int v)) = some (.d (lotD (atN N v.toNat))) := fun s => by
      rw [ev]
      simp only [Int.toNat_natCast]
      exact net_at (by have := hv0.1; have := hv0.2; omega) s
    have hadd : ∀ s, fAdd s (.d (lotD (atN N v.toNat))) (.d (.tuple [.int v])) = some (.d (.tuple ((famOf N v).map .int))) := fun s => by
      unfold lotD famOf
      rw [add_t _ _ _ (by
        have := congrArg List.length (show famOf N v = atN N v.toNat ++ [v] from rfl)
        simp at this ⊢
        omega)]
      simp
    have one : 1 ≤ sizeLine := by rw [size_lit]; omega
    rw [xb0_law_nk_moral_links]
    simp [hat, one, hadd]
    rw [for_xs _ _ _ (srg1_ok (s := st ++ [.d (dP ks)]) (n := (famOf N v).length) ?h1 (by omega))]
    case h1 => simp
    simp at inner
    rw [inner]
    exact ih
theorem s_law_links {m : Nat} (h : 3 ≤ m) (g : Bool) (st : Store) {N : List (List Int)} {lot : List Int} (hN : Net N) (hL : UpF N.length (-1) lot) : D g "_law_nk_moral_links" m [.d (netD N), .d (lotD lot)] st = .ok (.d (linksD (morF N lot))) st := by
  obtain ⟨k, rfl⟩ := up2 (m := m) (by omega)
  rw [u_law_nk_moral_links]
  have hI := up_in rfl hL
  have h3 := fun st => s_law_ancestors (m := k + 1) (lot := lot) (by omega) g st (by have := hN.len; omega) hN.w (by have := hL.len'; have := hN.len; omega)
  have ha := anc_len hN hI
  obtain ⟨u1, u2, u3, u4, loop⟩ := lmo_outer (m := k + 1) (g := g) (st := st) (B := some (.d (lotD lot))) hN (ancF N lot) [] none none none none (anc_in hN hI) (by
    have : (ancF N lot).length * 1600 ≤ 40 * 1600 := Nat.mul_le_mul_right _ ha
    simp only [List.length_nil]
    omega)
  have e0 : Cell.d (.t []) = Cell.d (dP []) := rfl
  simp [startA, List.replicate]
  rw [e0]
  rw [for_xs _ _ _ (l := (ancF N lot).map fun i => .d (.int i)) (s := st ++ [.d (dP [])]) ?h1]
  case h1 =>
    simp [h3, lot_src]
  rw [loop]
  have e1 : List.foldl (fun ks v => famStep ks (famOf N v)) [] (ancF N lot) = linksF N (ancF N lot) := rfl
  rw [e1]
  simp [srtP, linksD, morF]
/-- what the law's own moral tells -/
def moralD (N : List (List Int)) (lot : List Int) : PyData :=
  if (morF N lot).length ≤ 400 then .tuple [.str "told", webD N.length (morF N lot)] else .tuple [.str "TooMany", .int (morF N lot).length]
theorem s_law_moral {m : Nat} (h : 4 ≤ m) (g : Bool) (st : Store) {N : List (List Int)} {lot : List Int} (hN : Net N) (hL : UpF N.length (-1) lot) : D g "_law_nk_moral" m [.d (netD N), .d (lotD lot)] st = .ok (.d (moralD N lot)) st := by
  obtain ⟨k, rfl⟩ := up2 (m := m) (by omega)
  rw [u_law_nk_moral]
  have h1 := fun st => s_law_links (m := k + 1) (by omega) g st hN hL
  have hn : ∀ st, gLen st [.d (netD N)] = some (.d (.int N.length)) := fun st => by simp [netD]
  have hm : ∀ st, gLen st [.d (linksD (morF N lot))] = some (.d (.int (morF N lot).length)) := fun st => by simp [linksD]
  simp [startA, List.replicate, h1, hm]
  unfold moralD
  by_cases hl : (morF N lot).length ≤ 400
  · have hl' : ((morF N lot).length : Int) ≤ 400 := by omega
    simp [hl, hl', hn, two_size, webD]
  · have hl' : ¬ ((morF N lot).length : Int) ≤ 400 := by omega
    simp [hl, hl', hm, two_size]
end NL
end
section
set_option Elab.async false
set_option linter.all false
set_option maxRecDepth 100000
set_option maxHeartbeats 1000000
/-! Plain: sameness of things. -/
namespace NL
open PySem PySem.Spec PyProof.Rows L2

/-- no dict, d deep at most, at most 2,000 long -/
def Nice : Nat → PyData → Bool
  | d, x => match x with
    | .list xs => match d with
      | 0 => false
      | d + 1 => decide (xs.length ≤ 2000) && xs.all (Nice d)
    | .tuple xs => match d with
      | 0 => false
      | d + 1 => decide (xs.length ≤ 2000) && xs.all (Nice d)
    | .dict _ => false
    | _ => true
theorem nice_t {d : Nat} {xs : List PyData} : Nice (d + 1) (.tuple xs) = true ↔ xs.length ≤ 2000 ∧ ∀ x ∈ xs, Nice d x = true := by
  rw [Nice]
  simp [List.all_eq_true]
theorem nice_l {d : Nat} {xs : List PyData} : Nice (d + 1) (.list xs) = true ↔ xs.length ≤ 2000 ∧ ∀ x ∈ xs, Nice d x = true := by
  rw [Nice]
  simp [List.all_eq_true]
theorem nice_i (d : Nat) (i : Int) : Nice d (.int i) = true := by cases d <;> rfl
theorem nice_s (d : Nat) (i : Str) : Nice d (.str i) = true := by cases d <;> rfl
theorem nice_b (d : Nat) (i : Bool) : Nice d (.bool i) = true := by cases d <;> rfl
theorem nice_n (d : Nat) : Nice d .none = true := by cases d <;> rfl
theorem nice_up : ∀ {d e : Nat} {x : PyData}, Nice d x = true → d ≤ e → Nice e x = true
  | 0, e, x, h, _ => by
    cases x with
    | list xs => cases h
    | tuple xs => cases h
    | dict _ => cases h
    | none => exact nice_n _
    | bool _ => exact nice_b _ _
    | int _ => exact nice_i _ _
    | str _ => exact nice_s _ _
  | d + 1, 0, x, _, h => by omega
  | d + 1, e + 1, x, h, hl => by
    cases x with
    | list xs =>
      obtain ⟨h1, h2⟩ := nice_l.mp h
      exact nice_l.mpr ⟨h1, fun y hy => nice_up (h2 y hy) (by omega)⟩
    | tuple xs =>
      obtain ⟨h1, h2⟩ := nice_t.mp h
      exact nice_t.mpr ⟨h1, fun y hy => nice_up (h2 y hy) (by omega)⟩
    | dict _ => cases h
    | none => exact nice_n _
    | bool _ => exact nice_b _ _
    | int _ => exact nice_i _ _
    | str _ => exact nice_s _ _
theorem nice_nd {d : Nat} {x : PyData} (h : Nice d x = true) : noDict x = true := by
  cases x with
  | dict _ => cases d <;> cases h
  | _ => rfl
theorem nice_mem {d : Nat} {x : PyData} (h : Nice d x = true) {ds : List PyData} (e : x = .tuple ds ∨ x = .list ds) : ∃ k, d = k + 1 ∧ ds.length ≤ 2000 ∧ ∀ y ∈ ds, Nice k y = true := by
  cases d with
  | zero => rcases e with rfl | rfl <;> cases h
  | succ k =>
    rcases e with rfl | rfl
    · exact ⟨k, rfl, (nice_t.mp h).1, (nice_t.mp h).2⟩
    · exact ⟨k, rfl, (nice_l.mp h).1, (nice_l.mp h).2⟩
theorem nice_nd3 {d : Nat} {x : PyData} (h : Nice d x = true) : nd3 x := by
  refine ⟨nice_nd h, fun ds e y hy => ?_⟩
  obtain ⟨k, _, _, h1⟩ := nice_mem h e
  refine ⟨nice_nd (h1 y hy), fun es e z hz => ?_⟩
  obtain ⟨k2, _, _, h2⟩ := nice_mem (h1 y hy) e
  refine ⟨nice_nd (h2 z hz), fun fs e u hu => ?_⟩
  obtain ⟨k3, _, _, h3⟩ := nice_mem (h2 z hz) e
  exact nice_nd (h3 u hu)
theorem fne_b (st : Store) (a b : Bool) : fNe st (.d (.bool a)) (.d (.bool b)) = some (.d (.bool (a != b))) := by
  have : PyData.eqv (.bool a) (.bool b) = (a == b) := by unfold PyData.eqv; rfl
  simp [fNe, onD, this, PyData.depth]
  cases a <;> cases b <;> rfl
theorem feq_s (st : Store) (a : Str) : fEq st (.d (.str a)) (.d (.str a)) = some (.d (.bool true)) := by
  have : PyData.eqv (.str a) (.str a) = true := by unfold PyData.eqv; simp
  simp [fEq, onD, this, PyData.depth]
theorem s_is_whole {m : Nat} (h : 2 ≤ m) (g : Bool) (st : Store) (i : Int) : D g "_law_ns_is_whole" m [.d (.int i)] st = .ok (.d (.bool true)) st := by
  obtain ⟨k, rfl⟩ := up2 h
  rw [u_law_ns_is_whole]
  simp [startA, tyS, isiB]
/-- y is a row of these, of the type T -/
structure Row1 (st : Store) (y : AV) (T : String) (xs : List PyData) : Prop where
  ty : tyS st y = some T
  len : gLen st [y] = some (.d (.int xs.length))
  at_ : ∀ i : Nat, i < xs.length → fSub1 st y (.d (.int (i : Int))) = (xs[i]?).map .d
theorem row_t (st : Store) (xs : List PyData) : Row1 st (.d (.tuple xs)) "tuple" xs := ⟨rfl, by simp, fun i _ => by rw [ix_t, at_nat]⟩
theorem row_l (st : Store) (xs : List PyData) : Row1 st (.d (.list xs)) "list" xs := ⟨rfl, by simp, fun i _ => by rw [ix_l, at_nat]⟩
theorem row_r {st : Store} {l : Nat} {xs : List PyData} (e : st[l]? = some (.l xs)) : Row1 st (.r l) "list" xs := ⟨by simp [tyS, e], glen_r _ e, fun i _ => by rw [ix_r _ e, at_nat]⟩
theorem same_loop {m : Nat} {g : Bool} {st : Store} {y z : AV} {T : String} {xs : List PyData} (hy : Row1 st y T xs) (hz : Row1 st z T xs) (hs : ∀ x ∈ xs, D g "_law_ns_same" m [.d x, .d x] st = .ok (.d (.bool true)) st) : ∀ (n i : Nat) (x : Option AV), i + n = xs.length →
    ∃ x', forL (gNm 2) (b0_law_ns_same g m) (rgF i n) [some y, some z, x] st = .ok (.nx [some y, some z, x']) st
  | 0, _, _, _ => ⟨_, rfl⟩
  | n + 1, i, x, h => by
    obtain ⟨x', ih⟩ := same_loop hy hz hs n (i + 1) (some (.d (.int (i : Int)))) (by omega)
    refine ⟨x', ?_⟩
    have hi : i < xs.length := by omega
    have h1 := hy.at_ i hi
    have h2 := hz.at_ i hi
    rw [List.getElem?_eq_getElem hi] at h1 h2
    have h3 := hs xs[i] (List.getElem_mem hi)
    rw [rgF]
    unfold forL
    simp [xb0_law_ns_same, h1, h2, h3]
    exact ih
theorem ty_t (st : Store) (xs : List PyData) : tyS st (.d (.tuple xs)) = some "tuple" := rfl
theorem ty_l (st : Store) (xs : List PyData) : tyS st (.d (.list xs)) = some "list" := rfl
theorem same_row {m : Nat} {g : Bool} {st : Store} {y : AV} {T : String} {xs : List PyData} (h : 2 ≤ m) (hT : T = "tuple" ∨ T = "list") (z : PyData) (ez : z = .tuple xs ∧ T = "tuple" ∨ z = .list xs ∧ T = "list") (hy : Row1 st y T xs) (hl : xs.length ≤ 16777216) (hs : ∀ x ∈ xs, D g "_law_ns_same" (m - 1) [.d x, .d x] st = .ok (.d (.bool true)) st) :
    D g "_law_ns_same" m [y, .d z] st = .ok (.d (.bool true)) st := by
  obtain ⟨k, rfl⟩ := up2 h
  rw [show k + 2 - 1 = k + 1 by omega] at hs
  rw [u_law_ns_same]
  rcases ez with ⟨rfl, rfl⟩ | ⟨rfl, rfl⟩
  · obtain ⟨x', loop⟩ := same_loop (st := st) (m := k + 1) (g := g) hy (row_t st xs) hs xs.length 0 none (by omega)
    simp [startA, ty_t, ty_l, isiB, isB, List.replicate, hy.ty, fne_b, hy.len]
    rw [for_xs _ _ _ (srg1_ok (s := st) (n := xs.length) ?h1 hl), loop]
    case h1 => simp
    simp
  · obtain ⟨x', loop⟩ := same_loop (st := st) (m := k + 1) (g := g) hy (row_l st xs) hs xs.length 0 none (by omega)
    simp [startA, ty_t, ty_l, isiB, isB, List.replicate, hy.ty, fne_b, hy.len]
    rw [for_xs _ _ _ (srg1_ok (s := st) (n := xs.length) ?h1 hl), loop]
    case h1 => simp
    simp
theorem s_same {g : Bool} {st : Store} : ∀ {d m : Nat} {x : PyData}, Nice d x = true → d + 3 ≤ m → D g "_law_ns_same" m [.d x, .d x] st = .ok (.d (.bool true)) st := by
  intro d
  induction d with
  | zero =>
    intro m x h hm
    obtain ⟨k, rfl⟩ := up2 (m := m) (by omega)
    cases x with
    | list _ => cases h
    | tuple _ => cases h
    | dict _ => cases h
    | none => rw [u_law_ns_same]; simp [startA, isB]
    | bool b => rw [u_law_ns_same]; cases b <;> simp [startA, isB, tyS, isiB]
    | int i => rw [u_law_ns_same]; simp [startA, isB, tyS, isiB, s_is_whole (m := k + 1) (by omega)]
    | str x => rw [u_law_ns_same]; simp [startA, isB, tyS, isiB, feq_s]
  | succ d ih =>
    intro m x h hm
    cases x with
    | list xs =>
      obtain ⟨h1, h2⟩ := nice_l.mp h
      exact same_row (T := "list") (by omega) (.inr rfl) _ (.inr ⟨rfl, rfl⟩) (row_l st xs) (by omega) fun y hy => ih (h2 y hy) (by omega)
    | tuple xs =>
      obtain ⟨h1, h2⟩ := nice_t.mp h
      exact same_row (T := "tuple") (by omega) (.inl rfl) _ (.inl ⟨rfl, rfl⟩) (row_t st xs) (by omega) fun y hy => ih (h2 y hy) (by omega)
    | dict _ => cases h
    | none => obtain ⟨k, rfl⟩ := up2 (m := m) (by omega); rw [u_law_ns_same]; simp [startA, isB]
    | bool b => obtain ⟨k, rfl⟩ := up2 (m := m) (by omega); rw [u_law_ns_same]; cases b <;> simp [startA, isB, tyS, isiB]
    | int i => obtain ⟨k, rfl⟩ := up2 (m := m) (by omega); rw [u_law_ns_same]; simp [startA, isB, tyS, isiB, s_is_whole (m := k + 1) (by omega)]
    | str x => obtain ⟨k, rfl⟩ := up2 (m := m) (by omega); rw [u_law_ns_same]; simp [startA, isB, tyS, isiB, feq_s]
/-- a written list and a told one -/
theorem s_same_r {g : Bool} {st : Store} {d m l : Nat} {xs : List PyData} (e : st[l]? = some (.l xs)) (h : Nice (d + 1) (.list xs) = true) (hm : d + 4 ≤ m) : D g "_law_ns_same" m [.r l, .d (.list xs)] st = .ok (.d (.bool true)) st := by
  obtain ⟨h1, h2⟩ := nice_l.mp h
  exact same_row (T := "list") (by omega) (.inr rfl) _ (.inr ⟨rfl, rfl⟩) (row_r e) (by omega) fun y hy => s_same (h2 y hy) (by omega)
/-! what is heard -/
theorem hrd_ok {f : FE} {a : Env} {st s : Store} {d : PyData} (h : f a st = .ok (.d d) s) : hrd f a st = .ok (.d (.tuple [.str "told", d])) s := by
  rw [a_hrd, h]
  rfl
theorem hrd_exc {f : FE} {a : Env} {st s : Store} {c : Str} {x : PyData} (h : f a st = .exc c x s) (hc : c ∈ exsK) (hx : noL x = true) : hrd f a st = .ok (.d (.tuple [.str c, x])) s := by
  rw [a_hrd, h]
  show (if c ∈ exsK ∧ noL x = true then Out.ok (AV.d (pairH c x)) s else Out.stuck) = _
  rw [if_pos ⟨hc, hx⟩]
  rfl
end NL
end
section
set_option Elab.async false
set_option linter.all false
set_option maxRecDepth 100000
set_option maxHeartbeats 1000000
/-! Plain: the jar of draws. -/
namespace NL
open PySem PySem.Spec PyProof.Rows L2

/-- the jar, behind at most n stirs -/
def Jr (n : Nat) (c : Cell) : Prop := ∃ a b e : Int, c = .l [.int a, .int b, .int e] ∧ 0 ≤ a ∧ a < 2 ^ 500 ∧ 0 ≤ b ∧ b < 2147483647 ∧ 0 ≤ e ∧ e ≤ n
theorem Jr.up {n k : Nat} {c : Cell} (h : Jr n c) (l : n ≤ k) : Jr k c := by
  obtain ⟨a, b, e, h0, h1, h2, h3, h4, h5, h6⟩ := h
  exact ⟨a, b, e, h0, h1, h2, h3, h4, h5, by omega⟩
theorem big_of {i : Int} (h : i.natAbs < 2 ^ 1000) : bigOk i = true := by
  unfold bigOk
  apply decide_eq_true
  by_cases z : i.natAbs = 0
  · rw [z]
    decide
  · exact Nat.lt_trans ((Nat.log2_lt z).mpr h) (by omega)
theorem mul_i (st : Store) {i j : Int} (hi : bigOk i = true) (hj : bigOk j = true) : fMul st (.d (.int i)) (.d (.int j)) = some (.d (.int (i * j))) := by
  simp only [fMul, oneOf, mulI, onI, hi, hj, Bool.and_self, if_true, Option.map_some]
theorem log_small {k : Nat} (h : k ≤ 16777216) : k.log2 < 9000 := by
  by_cases z : k = 0
  · subst z; decide
  · exact Nat.lt_of_lt_of_le ((Nat.log2_lt z).mpr (show k < 2 ^ 25 by omega)) (by omega)
theorem div_n (st : Store) (i : Int) {k : Nat} (h : 0 < k) (h2 : k ≤ 16777216) : fDiv st (.d (.int i)) (.d (.int (k : Int))) = some (.d (.int (i / k))) := by
  rw [div_i, if_pos ⟨by omega, by rw [Int.natAbs_natCast]; exact log_small h2⟩]
  rfl
theorem mod_n (st : Store) (i : Int) {k : Int} (h : 0 < k) : fMod st (.d (.int i)) (.d (.int k)) = some (.d (.int (i % k))) := by
  rw [mod_i, if_pos h]
  rfl
section
variable (rest : Store) (a b c v : PyData)
theorem jx0 : fSub1 (.l [a, b, c] :: rest) (.r 0) (.d (.int 0)) = some (.d a) := by rw [ix_r (xs := [a, b, c]) _ rfl]; rfl
theorem jx1 : fSub1 (.l [a, b, c] :: rest) (.r 0) (.d (.int 1)) = some (.d b) := by rw [ix_r (xs := [a, b, c]) _ rfl]; rfl
theorem jx2 : fSub1 (.l [a, b, c] :: rest) (.r 0) (.d (.int 2)) = some (.d c) := by rw [ix_r (xs := [a, b, c]) _ rfl]; rfl
theorem jp0 : putL (.l [a, b, c] :: rest) (.r 0) (.d (.int 0)) (.d v) = some (.l [v, b, c] :: rest) := rfl
theorem jp1 : putL (.l [a, b, c] :: rest) (.r 0) (.d (.int 1)) (.d v) = some (.l [a, v, c] :: rest) := rfl
theorem jp2 : putL (.l [a, b, c] :: rest) (.r 0) (.d (.int 2)) (.d v) = some (.l [a, b, v] :: rest) := rfl
end
theorem take_cons (J : Cell) (rest : Store) : (J :: rest).take (rest.length + 1) = J :: rest := by simp
theorem s_take {m : Nat} (h : 2 ≤ m) (g : Bool) {n : Nat} {J : Cell} (hJ : Jr n J) (hn : n ≤ 2 ^ 500) (rest : Store) {k : Nat} (hk : 0 < k) (hk2 : k ≤ 16777216) : ∃ (r : Nat) (J' : Cell), D g "_law_take" m [.r 0, .d (.int (k : Int))] (J :: rest) = .ok (.d (.int (r : Int))) (J' :: rest) ∧ r < k ∧ Jr (n + 1) J' := by
  obtain ⟨q, rfl⟩ := up2 h
  obtain ⟨a, b, e, rfl, h1, h2, h3, h4, h5, h6⟩ := hJ
  have kp : (0 : Int) < k := by omega
  by_cases ha : 0 < a
  · refine ⟨(a % k).toNat, .l [.int (a / k), .int b, .int e], ?_, ?_, a / k, b, e, rfl, ?_, ?_, h3, h4, h5, by omega⟩
    · rw [u_law_take, Int.toNat_of_nonneg (Int.emod_nonneg _ (by omega))]
      simp [startA, List.replicate, jx0, ha, mod_n _ _ kp, div_n _ _ hk hk2, jp0]
    · have := Int.emod_lt_of_pos a kp
      have := Int.emod_nonneg a (show (k : Int) ≠ 0 by omega)
      omega
    · exact Int.ediv_nonneg h1 (by omega)
    · exact Int.lt_of_le_of_lt (Int.ediv_le_self _ h1) h2
  · let b' := (b * 39373 + 7919 * (e + 1) + 7) % 2147483647
    have hb0 : 0 ≤ b' := Int.emod_nonneg _ (by omega)
    have hb1 : b' < 2147483647 := Int.emod_lt_of_pos _ (by omega)
    refine ⟨((b' * b' % 2147483629 / 32) % k).toNat, .l [.int a, .int b', .int (e + 1)], ?_, ?_, a, b', e + 1, rfl, h1, h2, hb0, hb1, by omega, by omega⟩
    · rw [u_law_take, Int.toNat_of_nonneg (Int.emod_nonneg _ (by omega))]
      have big1 : bigOk b = true := big_of (by omega)
      have big2 : bigOk 39373 = true := big_of (by omega)
      have big3 : bigOk (e + 1) = true := big_of (by omega)
      have big4 : bigOk 7919 = true := big_of (by omega)
      have big5 : bigOk b' = true := big_of (by omega)
      have m1 : ∀ st, fMul st (.d (.int b)) (.d (.int 39373)) = some (.d (.int (b * 39373))) := fun st => mul_i st big1 big2
      have m2 : ∀ st, fMul st (.d (.int 7919)) (.d (.int (e + 1))) = some (.d (.int (7919 * (e + 1)))) := fun st => mul_i st big4 big3
      have m3 : ∀ st, fMul st (.d (.int b')) (.d (.int b')) = some (.d (.int (b' * b'))) := fun st => mul_i st big5 big5
      have d1 : ∀ st i, fDiv st (.d (.int i)) (.d (.int 32)) = some (.d (.int (i / 32))) := fun st i => div_n st i (k := 32) (by omega) (by omega)
      have mb : ∀ st, fMod st (.d (.int (b * 39373 + 7919 * (e + 1) + 7))) (.d (.int 2147483647)) = some (.d (.int b')) := fun st => mod_n st _ (by omega)
      have mc : ∀ st i, fMod st (.d (.int i)) (.d (.int 2147483629)) = some (.d (.int (i % 2147483629))) := fun st i => mod_n st _ (by omega)
      generalize b' = z at *
      simp [startA, List.replicate, jx0, jx1, jx2, jp1, jp2, ha, m1, m2, m3, d1, mb, mc, mod_n _ _ kp]
    · have := Int.emod_lt_of_pos (b' * b' % 2147483629 / 32) kp
      have := Int.emod_nonneg (b' * b' % 2147483629 / 32) (show (k : Int) ≠ 0 by omega)
      omega
theorem pow12 (st : Store) : fPow st (.d (.int 10)) (.d (.int 12)) = some (.d (.int (10 ^ 12))) := by
  simp [fPow, onI]
theorem pow60 (st : Store) : fPow st (.d (.int 10)) (.d (.int 60)) = some (.d (.int (10 ^ 60))) := by
  simp [fPow, onI]
theorem max_i (st : Store) (i j : Int) : gMax st [.d (.int i), .d (.int j)] = some (.d (.int (if j > i then j else i))) := rfl
theorem ix_z (st : Store) (ns : List Int) (i : Int) : fSub1 st (.z ns) (.d (.int i)) = (atI ns i).map fun n => .d (.int n) := by
  simp only [fSub1, oneOf, fIx, fIxK, dcOf]
  cases atI ns i <;> rfl
theorem pool_loop {m : Nat} {g : Bool} {st : Store} {ns : List Int} : ∀ (k i : Nat) (a b : Int) (x y : Option AV), i + k = ns.length → 0 ≤ a → a < 2 ^ 500 → 0 ≤ b → b < 2147483647 →
    ∃ (a' b' : Int) (x' y' : Option AV), forL (gNm 1) (b0_law_pool g m) (rgF i k) [some (.z ns), x, some (.d (.int a)), some (.d (.int b)), y] st = .ok (.nx [some (.z ns), x', some (.d (.int a')), some (.d (.int b')), y']) st ∧ 0 ≤ a' ∧ a' < 2 ^ 500 ∧ 0 ≤ b' ∧ b' < 2147483647
  | 0, i, a, b, x, y, _, h1, h2, h3, h4 => ⟨a, b, x, y, rfl, h1, h2, h3, h4⟩
  | k + 1, i, a, b, x, y, h, h1, h2, h3, h4 => by
    have hi : i < ns.length := by omega
    let z := ns[i]
    have hz : ∀ s, fSub1 s (.z ns) (.d (.int (i : Int))) = some (.d (.int z)) := fun s => by
      rw [ix_z, at_nat, List.getElem?_eq_getElem hi]
      rfl
    let cl : Int := if (-1 - z) > z then -1 - z else z
    have hc0 : 0 ≤ cl := by
      show 0 ≤ (if (-1 - z) > z then -1 - z else z)
      split <;> omega
    let b' := (b * 48271 + cl % 2147483629 + 11) % 2147483647
    have hb0 : 0 ≤ b' := Int.emod_nonneg _ (by omega)
    have hb1 : b' < 2147483647 := Int.emod_lt_of_pos _ (by omega)
    have big1 : bigOk b = true := big_of (by omega)
    have big2 : bigOk 48271 = true := big_of (by omega)
    have m1 : ∀ st, fMul st (.d (.int b)) (.d (.int 48271)) = some (.d (.int (b * 48271))) := fun st => mul_i st big1 big2
    have mc : ∀ st i, fMod st (.d (.int i)) (.d (.int 2147483629)) = some (.d (.int (i % 2147483629))) := fun st i => mod_n st _ (by omega)
    have mb : ∀ st, fMod st (.d (.int (b * 48271 + cl % 2147483629 + 11))) (.d (.int 2147483647)) = some (.d (.int b')) := fun st => mod_n st _ (by omega)
    have mx : ∀ st, gMax st [.d (.int z), .d (.int (-1 - z))] = some (.d (.int cl)) := fun st => max_i st _ _
    have md : ∀ st i, fMod st (.d (.int i)) (.d (.int (10 ^ 60))) = some (.d (.int (i % 10 ^ 60))) := fun st i => mod_n st _ (by omega)
    by_cases hq : (10 : Int) ^ 12 ≤ cl ∧ a < 10 ^ 60
    · have big3 : bigOk a = true := big_of (by omega)
      have big4 : bigOk (10 ^ 60) = true := big_of (by omega)
      have m2 : ∀ st, fMul st (.d (.int a)) (.d (.int (10 ^ 60))) = some (.d (.int (a * 10 ^ 60))) := fun st => mul_i st big3 big4
      have hm0 : 0 ≤ cl % 10 ^ 60 := Int.emod_nonneg _ (by omega)
      have hm1 : cl % 10 ^ 60 < 10 ^ 60 := Int.emod_lt_of_pos _ (by omega)
      obtain ⟨a2, b2, x', y', ih, g1, g2, g3, g4⟩ := pool_loop (st := st) (m := m) (g := g) (ns := ns) k (i + 1) (a * 10 ^ 60 + cl % 10 ^ 60) b' (some (.d (.int (i : Int)))) (some (.d (.int cl))) (by omega) (by omega) (by omega) hb0 hb1
      refine ⟨a2, b2, x', y', ?_, g1, g2, g3, g4⟩
      rw [rgF]
      unfold forL
      simp only [g_nm, List.set_cons_succ, List.set_cons_zero]
      rw [xb0_law_pool]
      generalize b' = bb at *
      generalize cl = cc at *
      simp only [s_seq, s_asg, a_cb, a_cons, a_nil, a_op, a_var, a_neg, a_c, a_if, a_tand, a_tof, List.getElem?_cons_zero, List.getElem?_cons_succ, Out.bind_ok, hz, lift_some, neg_i, sub_i, mx, gint_i, g_nm, List.set_cons_zero, List.set_cons_succ, m1, mc, add_i, mb, pow12, pow60, fge_i, flt_i, tru_b, md, m2, decide_eq_true hq.1, decide_eq_true hq.2, if_true]
      exact ih
    · obtain ⟨a2, b2, x', y', ih, g1, g2, g3, g4⟩ := pool_loop (st := st) (m := m) (g := g) (ns := ns) k (i + 1) a b' (some (.d (.int (i : Int)))) (some (.d (.int cl))) (by omega) h1 h2 hb0 hb1
      refine ⟨a2, b2, x', y', ?_, g1, g2, g3, g4⟩
      rw [rgF]
      unfold forL
      simp only [g_nm, List.set_cons_succ, List.set_cons_zero]
      rw [xb0_law_pool]
      generalize b' = bb at *
      generalize cl = cc at *
      by_cases q1 : (10 : Int) ^ 12 ≤ cc
      · have q2 : ¬ a < 10 ^ 60 := fun z => hq ⟨q1, z⟩
        simp only [s_seq, s_asg, a_cb, a_cons, a_nil, a_op, a_var, a_neg, a_c, a_if, a_tand, a_tof, List.getElem?_cons_zero, List.getElem?_cons_succ, Out.bind_ok, hz, lift_some, neg_i, sub_i, mx, gint_i, g_nm, List.set_cons_zero, List.set_cons_succ, m1, mc, add_i, mb, pow12, pow60, fge_i, flt_i, tru_b, decide_eq_true q1, decide_eq_false q2, if_true, Bool.false_eq_true, if_false]
        exact ih
      · simp only [s_seq, s_asg, a_cb, a_cons, a_nil, a_op, a_var, a_neg, a_c, a_if, a_tand, a_tof, List.getElem?_cons_zero, List.getElem?_cons_succ, Out.bind_ok, hz, lift_some, neg_i, sub_i, mx, gint_i, g_nm, List.set_cons_zero, List.set_cons_succ, m1, mc, add_i, mb, pow12, pow60, fge_i, flt_i, tru_b, decide_eq_false q1, Bool.false_eq_true, if_false]
        exact ih
theorem end_n_r {n l : Nat} {st : Store} {c : Cell} (h : ¬ l < n) (e : st[l]? = some c) : endN n (.ok (.rt (.r l)) st) = .ok c (st.take n) := by
  simp only [endN, if_neg h, e]
theorem s_pool {m : Nat} (h : 2 ≤ m) (g : Bool) {ns : List Int} (hl : ns.length ≤ 16777216) (st : Store) : ∃ J, DNn g "_law_pool" m [.z ns] st = .ok J st ∧ Jr 0 J := by
  obtain ⟨q, rfl⟩ := up2 h
  obtain ⟨a', b', x', y', loop, h1, h2, h3, h4⟩ := pool_loop (m := q + 1) (g := g) (st := st) (ns := ns) ns.length 0 0 7 none none (by omega) (by omega) (by omega) (by omega) (by omega)
  refine ⟨.l [.int a', .int b', .int 0], ?_, a', b', 0, rfl, h1, h2, h3, h4, by omega, by omega⟩
  rw [u_law_pool]
  have three : 3 ≤ sizeLine := by rw [size_lit]; omega
  have hz : gLen st [.z ns] = some (.d (.int ns.length)) := rfl
  unfold runN
  simp [startA, List.replicate]
  rw [for_xs _ _ _ (srg1_ok (s := st) (n := ns.length) ?h1 hl), loop]
  case h1 => simp [hz]
  simp [three]
  rw [end_n_r (by omega) (by simp : (st ++ [Cell.l [.int a', .int b', .int 0]])[st.length]? = some (.l [.int a', .int b', .int 0]))]
  simp
/-- one of these things -/
theorem s_one {m : Nat} (h : 3 ≤ m) (g : Bool) {n : Nat} {J : Cell} (hJ : Jr n J) (hn : n ≤ 2 ^ 500) (rest : Store) {xs : List PyData} (hk : xs ≠ []) (hk2 : xs.length ≤ 16777216) : ∃ (x : PyData) (J' : Cell), D g "_law_one" m [.r 0, .d (.list xs)] (J :: rest) = .ok (.d x) (J' :: rest) ∧ x ∈ xs ∧ Jr (n + 1) J' := by
  obtain ⟨q, rfl⟩ := up2 (m := m) (by omega)
  have hpos : 0 < xs.length := List.length_pos_iff.mpr hk
  obtain ⟨r, J', e, hr, hJ'⟩ := s_take (m := q + 1) (by omega) g hJ hn rest (k := xs.length) hpos hk2
  refine ⟨xs[r], J', ?_, List.getElem_mem hr, hJ'⟩
  rw [u_law_one]
  simp [startA, e, at_nat, List.getElem?_eq_getElem hr]
/-- one of these, written -/
theorem s_one_r {m : Nat} (h : 3 ≤ m) (g : Bool) {n : Nat} {J : Cell} (hJ : Jr n J) (hn : n ≤ 2 ^ 500) (rest : Store) {l : Nat} {xs : List PyData} (hl : rest[l]? = some (.l xs)) (hk : xs ≠ []) (hk2 : xs.length ≤ 16777216) : ∃ (x : PyData) (J' : Cell), D g "_law_one" m [.r 0, .r (l + 1)] (J :: rest) = .ok (.d x) (J' :: rest) ∧ x ∈ xs ∧ Jr (n + 1) J' := by
  obtain ⟨q, rfl⟩ := up2 (m := m) (by omega)
  have hpos : 0 < xs.length := List.length_pos_iff.mpr hk
  obtain ⟨r, J', e, hr, hJ'⟩ := s_take (m := q + 1) (by omega) g hJ hn rest (k := xs.length) hpos hk2
  refine ⟨xs[r], J', ?_, List.getElem_mem hr, hJ'⟩
  rw [u_law_one]
  have e1 : gLen (J :: rest) [.r (l + 1)] = some (.d (.int xs.length)) := glen_r _ (by simpa using hl)
  have e2 : ∀ i, fSub1 (J' :: rest) (.r (l + 1)) (.d (.int i)) = (atI xs i).map .d := fun i => ix_r _ (by simpa using hl) i
  simp [startA, e, e1, e2, at_nat, List.getElem?_eq_getElem hr]
/-! comprehensions that draw -/
theorem lcL_jar {turn : AV → Store → Out (Option PyData)} {F : AV → PyData} {rest : Store} {c : Nat} : ∀ (l : List AV) (acc : List PyData) (n : Nat) (J : Cell), (∀ x ∈ l, ∀ (n : Nat) (J : Cell), Jr n J → n ≤ 2 ^ 400 → ∃ o J', turn x (J :: rest) = .ok o (J' :: rest) ∧ Jr (n + c) J' ∧ (o = none ∨ o = some (F x))) →
    Jr n J → n + l.length * c ≤ 2 ^ 400 → acc.length + l.length ≤ 16777216 → ∃ ys J', lcL turn l acc (J :: rest) = .ok (acc ++ ys) (J' :: rest) ∧ Jr (n + l.length * c) J' ∧ ys.Sublist (l.map F)
  | [], acc, n, J, _, hJ, _, _ => ⟨[], J, by simp [lcL], by simpa using hJ, by simp⟩
  | x :: l, acc, n, J, h, hJ, hn, hl => by
    rw [List.length_cons, Nat.add_mul] at hn
    rw [List.length_cons] at hl
    obtain ⟨o, J1, e1, hJ1, ho⟩ := h x (List.mem_cons_self ..) n J hJ (by omega)
    have ih := fun acc => lcL_jar (F := F) (rest := rest) (c := c) l acc (n + c) J1 (fun y hy => h y (List.mem_cons_of_mem _ hy)) hJ1 (by omega)
    unfold lcL
    rw [e1, Out.bind_ok]
    rcases ho with rfl | rfl
    · obtain ⟨ys, J2, e2, hJ2, hs⟩ := ih acc (by omega)
      refine ⟨ys, J2, e2, hJ2.up (by rw [List.length_cons, Nat.add_mul]; omega), ?_⟩
      rw [List.map_cons]
      exact hs.cons _
    · obtain ⟨ys, J2, e2, hJ2, hs⟩ := ih (acc ++ [F x]) (by rw [List.length_append]; simp; omega)
      refine ⟨F x :: ys, J2, ?_, hJ2.up (by rw [List.length_cons, Nat.add_mul]; omega), ?_⟩
      · simp only
        rw [if_pos (by rw [size_lit]; omega), e2]
        simp
      · rw [List.map_cons]
        exact hs.cons₂ _
theorem nlc_jar {src : FSrc} {tg : FG} {tt : FT} {fe : FE} {own : List Nat} {l : List AV} {a : Env} {J : Cell} {rest : Store} {n c : Nat} (F : AV → PyData) (hs : src a (J :: rest) = .ok (.xs l) (J :: rest))
    (h : ∀ x ∈ l, ∀ (n : Nat) (J : Cell), Jr n J → n ≤ 2 ^ 400 → ∃ o J', lcTurn tg tt fe own a x (J :: rest) = .ok o (J' :: rest) ∧ Jr (n + c) J' ∧ (o = none ∨ o = some (F x))) (hJ : Jr n J) (hn : n + l.length * c ≤ 2 ^ 400) (hl : l.length ≤ 16777216) :
    ∃ ys J', nLc src tg tt fe own a (J :: rest) = .ok (.l ys) (J' :: rest) ∧ Jr (n + l.length * c) J' ∧ ys.Sublist (l.map F) := by
  obtain ⟨ys, J', e, hJ', h2⟩ := lcL_jar (F := F) l [] n J h hJ hn (by simpa using hl)
  refine ⟨ys, J', ?_, hJ', h2⟩
  rw [lc_xs _ _ _ _ _ hs, e]
  simp
end NL
end
section
set_option Elab.async false
set_option linter.all false
set_option maxRecDepth 100000
set_option maxHeartbeats 1000000
/-! Plain: a drawn order. -/
namespace NL
open PySem PySem.Spec PyProof.Rows L2

section
variable (J : Cell) (rest : Store) (c d e : Cell)
theorem g1 : (J :: (rest ++ [c, d]))[rest.length + 1]? = some c := by simp
theorem g2 : (J :: (rest ++ [c, d]))[rest.length + 1 + 1]? = some d := by simp
theorem t1 : (J :: (rest ++ [c, d])).set (rest.length + 1) e = J :: (rest ++ [e, d]) := by simp
theorem t2 : (J :: (rest ++ [c, d])).set (rest.length + 1 + 1) e = J :: (rest ++ [c, e]) := by simp
end
/-- a list, wherever it stands -/
structure Lst (rest : Store) (x : AV) (xs : List PyData) : Prop where
  sq_ : ∀ (J : Cell) (tl : Store), sq (J :: (rest ++ tl)) x = some xs
  len : ∀ (J : Cell) (tl : Store), gLen (J :: (rest ++ tl)) [x] = some (.d (.int xs.length))
theorem lst_d (rest : Store) (xs : List PyData) : Lst rest (.d (.list xs)) xs := ⟨fun _ _ => rfl, fun _ _ => by simp⟩
theorem lst_r {rest : Store} {l : Nat} {xs : List PyData} (h : rest[l]? = some (.l xs)) : Lst rest (.r (l + 1)) xs := by
  have e : ∀ (J : Cell) (tl : Store), (J :: (rest ++ tl))[l + 1]? = some (.l xs) := fun J tl => by
    rw [List.getElem?_cons_succ, List.getElem?_append_left (List.getElem?_eq_some_iff.mp h).1, h]
  exact ⟨fun J tl => by simp only [sq, vw, e], fun J tl => glen_r _ (e J tl)⟩
theorem pop_at (st : Store) {l r : Nat} {xs : List PyData} (h : st[l]? = some (.l xs)) (hr : r < xs.length) (hl : xs.length ≤ 16777216) : mPopAt st (.r l) [.d (.int (r : Int))] = some (.d xs[r], st.set l (.l (xs.eraseIdx r))) := by
  simp only [mPopAt, h]
  rw [if_pos ⟨by omega, by omega, ltB_ok (by rw [p62]; omega)⟩]
  rw [Int.toNat_natCast, List.getElem?_eq_getElem hr]
theorem app_at (st : Store) {l : Nat} {xs : List PyData} {y : PyData} (h : st[l]? = some (.l xs)) (hl : xs.length < 16777216) : mAppend st (.r l) [.d y] = some (.d .none, st.set l (.l (xs ++ [y]))) := by
  simp only [mAppend, h]
  rw [if_pos (by rw [size_lit]; exact hl)]
theorem extend_at (st : Store) {l : Nat} {xs ys : List PyData} (h : st[l]? = some (.l xs)) (hl : xs.length + ys.length ≤ 16777216) : mExtend st (.r l) [.d (.list ys)] = some (.d .none, st.set l (.l (xs ++ ys))) := by
  simp only [mExtend, h, ls, vw]
  rw [if_pos (by rw [size_lit]; exact hl)]
theorem ty_r {st : Store} {l : Nat} {xs : List PyData} (h : st[l]? = some (.l xs)) : tyS st (.r l) = some "list" := by simp only [tyS, h]
theorem erase_perm {β : Type} : ∀ (xs : List β) (r : Nat) (h : r < xs.length), (xs[r] :: xs.eraseIdx r).Perm xs
  | x :: xs, 0, _ => .refl _
  | x :: xs, r + 1, h => by
    have ih := erase_perm xs r (by simpa using h)
    simp only [List.getElem_cons_succ, List.eraseIdx_cons_succ]
    exact (List.Perm.swap ..).trans (ih.cons x)
theorem mix_loop {m : Nat} (h : 2 ≤ m) {g : Bool} {rest : Store} {x : AV} {xs : List PyData} (hxs : xs.length < 16777216) : ∀ (k i n : Nat) (J : Cell) (sp fd : List PyData) (y : Option AV), Jr n J → n + k ≤ 2 ^ 400 → sp.length = k → (fd ++ sp).Perm xs →
    ∃ J' fd' y', forL (gNm 2) (b0_law_mixed g m) (rgF i k) [some (.r 0), some x, y, some (.r (rest.length + 1)), some (.r (rest.length + 1 + 1))] (J :: (rest ++ [.l sp, .l fd])) = .ok (.nx [some (.r 0), some x, y', some (.r (rest.length + 1)), some (.r (rest.length + 1 + 1))]) (J' :: (rest ++ [.l [], .l fd'])) ∧ Jr (n + k) J' ∧ fd'.Perm xs
  | 0, i, n, J, sp, fd, y, hJ, _, hsp, hp => by
    have e := List.eq_nil_of_length_eq_zero hsp
    subst e
    exact ⟨J, fd, y, rfl, hJ, by simpa using hp⟩
  | k + 1, i, n, J, sp, fd, y, hJ, hn, hsp, hp => by
    have hlen := hp.length_eq
    rw [List.length_append] at hlen
    obtain ⟨r, J1, e1, hr, hJ1⟩ := s_take h g hJ (by omega) (rest ++ [.l sp, .l fd]) (k := sp.length) (by omega) (by omega)
    have hsp' : (sp.eraseIdx r).length = k := by rw [List.length_eraseIdx_of_lt hr]; omega
    have hp' : (fd ++ [sp[r]] ++ sp.eraseIdx r).Perm xs := by
      refine List.Perm.trans ?_ hp
      rw [List.append_assoc]
      exact List.Perm.append_left fd (erase_perm sp r hr)
    obtain ⟨J2, fd2, y2, e2, hJ2, hp2⟩ := mix_loop h (g := g) (rest := rest) (x := x) hxs k (i + 1) (n + 1) J1 (sp.eraseIdx r) (fd ++ [sp[r]]) (some (.d (.int (i : Int)))) hJ1 (by omega) hsp' hp'
    refine ⟨J2, fd2, y2, ?_, hJ2.up (by omega), hp2⟩
    rw [rgF]
    unfold forL
    simp only [g_nm, List.set_cons_succ, List.set_cons_zero]
    rw [xb0_law_mixed]
    simp only [s_drop, a_m, a_var, a_cons, a_nil, a_call, a_ofn, a_cb, List.getElem?_cons_zero, List.getElem?_cons_succ, Out.bind_ok, ty_r (g2 J rest _ _), ty_r (g1 J rest _ _), if_true, glen_r _ (g1 J rest (.l sp) (.l fd)), lift_some, List.length_cons, List.length_nil]
    rw [e1]
    simp only [Out.bind_ok, pop_at _ (g1 J1 rest (.l sp) (.l fd)) hr (by omega), t1, app_at _ (g2 J1 rest (.l (sp.eraseIdx r)) (.l fd)) (by omega), t2]
    exact e2
theorem s_mixed {m : Nat} (h : 3 ≤ m) (g : Bool) {n : Nat} {J : Cell} (hJ : Jr n J) {rest : Store} {x : AV} {xs : List PyData} (hx : Lst rest x xs) (hxs : xs.length < 16777216) (hn : n + xs.length ≤ 2 ^ 400) :
    ∃ ys J', D g "_law_mixed" m [.r 0, x] (J :: rest) = .ok (.d (.list ys)) (J' :: rest) ∧ Jr (n + xs.length) J' ∧ ys.Perm xs := by
  obtain ⟨q, rfl⟩ := up2 (m := m) (by omega)
  obtain ⟨J', fd, y, loop, hJ', hp⟩ := mix_loop (m := q + 1) (by omega) (g := g) (rest := rest) (x := x) hxs xs.length 0 n J xs [] none hJ hn rfl (by simp)
  refine ⟨fd, J', ?_, hJ', hp⟩
  rw [u_law_mixed]
  have e1 : hList (J :: rest) [x] = some (.l xs) := by
    have := hx.sq_ J []
    rw [List.append_nil] at this
    simp only [hList, this, Option.map_some]
  simp [startA, List.replicate, e1]
  rw [for_xs _ _ _ (srg1_ok (s := J :: (rest ++ [.l xs, .l []])) (n := xs.length) ?h1 (by omega)), loop]
  case h1 =>
    simp [hx.len J [.l xs, .l []]]
  simp
  rw [end_r _ _ (by omega) (g2 J' rest (.l []) (.l fd))]
  simp
end NL
end
section
set_option Elab.async false
set_option linter.all false
set_option maxRecDepth 100000
set_option maxHeartbeats 1000000
/-! Plain: drawn lots, drawn nets. -/
namespace NL
open PySem PySem.Spec PyProof.Rows L2

def rI (i : Nat) : Nat → List Int
  | 0 => []
  | n + 1 => (i : Int) :: rI (i + 1) n
theorem rgF_rI : ∀ (n i : Nat), rgF i n = (rI i n).map fun v => AV.d (.int v)
  | 0, _ => rfl
  | n + 1, i => by rw [rgF, rI, List.map_cons, rgF_rI n]
theorem rgD_rI : ∀ (n i : Nat), rgD (i : Int) n = (rI i n).map .int
  | 0, _ => rfl
  | n + 1, i => by
    have ih := rgD_rI n (i + 1)
    unfold rgD at ih ⊢
    rw [rI, List.map_cons, ← ih, List.range_succ_eq_map, List.map_cons, List.map_map]
    congr 1
    simp
    intro a _
    omega
theorem mem_rI : ∀ {n i : Nat} {x : Int}, x ∈ rI i n ↔ (i : Int) ≤ x ∧ x < (i : Int) + n
  | 0, i, x => by
    simp only [rI, List.not_mem_nil, false_iff]
    omega
  | n + 1, i, x => by
    rw [rI, List.mem_cons, mem_rI]
    omega
theorem len_rI : ∀ (n i : Nat), (rI i n).length = n
  | 0, _ => rfl
  | n + 1, i => by rw [rI, List.length_cons, len_rI n]
theorem rI_lt : ∀ (n i : Nat), (rI i n).Pairwise (· < ·)
  | 0, _ => .nil
  | n + 1, i => .cons (fun x hx => by
    have := (mem_rI.mp hx).1
    omega) (rI_lt n (i + 1))
theorem sub_int {l : List Int} {ys : List PyData} (h : ys.Sublist (l.map .int)) : ∃ zs : List Int, ys = zs.map .int ∧ zs.Sublist l := by
  obtain ⟨zs, h1, h2⟩ := List.sublist_map_iff.mp h
  exact ⟨zs, h2, h1⟩
theorem sub_up {n : Int} {i k : Nat} {zs : List Int} (h : zs.Sublist (rI i k)) (hk : (i : Int) + k ≤ n) : UpF n (-1) zs :=
  up_of (List.Pairwise.sublist h (rI_lt k i)) fun x hx => by
    have := mem_rI.mp (h.subset hx)
    omega
theorem cut_sub (xs : List PyData) (lo hi : Option Int) : (cutD xs lo hi).Sublist xs := by
  unfold cutD
  exact (List.take_sublist _ _).trans (List.drop_sublist _ _)
theorem perm_int {l : List Int} {ys : List PyData} (h : ys.Perm (l.map .int)) : ∃ zs : List Int, ys = zs.map .int ∧ zs.Perm l := by
  let f : PyData → Int := fun d => match d with
    | .int i => i
    | _ => 0
  refine ⟨ys.map f, ?_, ?_⟩
  · rw [List.map_map]
    conv => lhs; rw [← List.map_id ys]
    apply List.map_congr_left
    intro y hy
    obtain ⟨i, _, rfl⟩ := List.mem_map.mp (h.subset hy)
    rfl
  · have := h.map f
    rw [List.map_map] at this
    have e : (f ∘ PyData.int) = id := rfl
    rw [e, List.map_id] at this
    exact this
theorem sort_up {n : Int} {zs : List Int} (nd : zs.Nodup) (h : ∀ x ∈ zs, 0 ≤ x ∧ x < n) : UpF n (-1) (sortI zs) :=
  up_of (sortI_lt nd) fun x hx => by
    have := h x (mem_sortI.mp hx)
    omega
/-- a turn that keeps its number where the draw is nought -/
theorem draw_turn {m : Nat} (h : 2 ≤ m) {g : Bool} {j k : Nat} {e : Env} {fk : FE} (hj : j < e.length) (h0 : e[0]? = some (some (.r 0))) (hj0 : j ≠ 0) (hk : 0 < k) (hk2 : k ≤ 16777216) {rest : Store} (hf : ∀ (z : AV) (s : Store), fk (e.set j (some z)) s = .ok (.d (.int (k : Int))) s) (v : Int) {n : Nat} {J : Cell} (hJ : Jr n J) (hn : n ≤ 2 ^ 400) :
    ∃ o J', lcTurn (gNm j) (tOf (eOp fEq (eCall (ofN 2 (D g "_law_take" m)) (aCons (eVar 0) (aCons fk aNil))) (eC (.int 0)))) (eVar j) [j] e (.d (.int v)) (J :: rest) = .ok o (J' :: rest) ∧ Jr (n + 1) J' ∧ (o = none ∨ o = some (.int v)) := by
  obtain ⟨r, J', e1, hr, hJ'⟩ := s_take h g hJ (by omega) rest (k := k) hk hk2
  have h00 : (e.set j (some (.d (.int v))))[0]? = some (some (.r 0)) := by
    rw [List.getElem?_set_ne (by omega), h0]
  by_cases hz : r = 0
  · refine ⟨some (.int v), J', ?_, hJ', .inr rfl⟩
    subst hz
    simp [lcTurn, wipeA, quiet, h00, hf, e1, hj]
  · refine ⟨none, J', ?_, hJ', .inl rfl⟩
    simp [lcTurn, wipeA, quiet, h00, hf, e1, hj, hz]
def unD : AV → PyData
  | .d d => d
  | _ => .none
theorem map_unD (l : List Int) : (l.map fun v => AV.d (.int v)).map unD = l.map .int := by
  rw [List.map_map]
  rfl
/-- [v for v in .. if take(jar, k) == 0] -/
theorem draw_lc {m : Nat} (h : 2 ≤ m) {g : Bool} {src : FSrc} {j k : Nat} {e : Env} {fk : FE} {l : List Int} {rest : Store} {n : Nat} {J : Cell} (hj : j < e.length) (h0 : e[0]? = some (some (.r 0))) (hj0 : j ≠ 0) (hk : 0 < k) (hk2 : k ≤ 16777216) (hf : ∀ (z : AV) (s : Store), fk (e.set j (some z)) s = .ok (.d (.int (k : Int))) s)
    (hs : src e (J :: rest) = .ok (.xs (l.map fun v => AV.d (.int v))) (J :: rest)) (hJ : Jr n J) (hn : n + l.length ≤ 2 ^ 400) (hl : l.length ≤ 16777216) :
    ∃ (zs : List Int) (J' : Cell), nLc src (gNm j) (tOf (eOp fEq (eCall (ofN 2 (D g "_law_take" m)) (aCons (eVar 0) (aCons fk aNil))) (eC (.int 0)))) (eVar j) [j] e (J :: rest) = .ok (.l (zs.map .int)) (J' :: rest) ∧ Jr (n + l.length) J' ∧ zs.Sublist l := by
  obtain ⟨ys, J', e1, hJ', hsub⟩ := nlc_jar (c := 1) unD hs (fun x hx n J hJ hn => by
    obtain ⟨v, _, rfl⟩ := List.mem_map.mp hx
    exact draw_turn (g := g) h hj h0 hj0 hk hk2 hf v hJ hn) hJ (by simpa using hn) (by simpa using hl)
  rw [map_unD] at hsub
  obtain ⟨zs, rfl, hz⟩ := sub_int hsub
  exact ⟨zs, J', e1, by simpa using hJ', hz⟩
theorem s_lot {m : Nat} (h : 3 ≤ m) (g : Bool) {n many part : Nat} {J : Cell} (hJ : Jr n J) (rest : Store) (hn : n + many ≤ 2 ^ 400) (hm : many ≤ 16777216) (hp : 0 < part) (hp2 : part ≤ 16777216) :
    ∃ (ls : List Int) (J' : Cell), D g "_law_nk_lot" m [.r 0, .d (.int (many : Int)), .d (.int (part : Int))] (J :: rest) = .ok (.d (lotD ls)) (J' :: rest) ∧ UpF many (-1) ls ∧ Jr (n + many) J' := by
  obtain ⟨q, rfl⟩ := up2 (m := m) (by omega)
  obtain ⟨zs, J', e1, hJ', hz⟩ := draw_lc (m := q + 1) (by omega) (g := g) (src := sRg1 (aCons (eVar 1) aNil)) (j := 3) (k := part) (e := [some (.r 0), some (.d (.int (many : Int))), some (.d (.int (part : Int))), none]) (fk := eVar 2) (l := rI 0 many) (rest := rest) (by simp) rfl (by omega) hp hp2 (fun z s => by simp)
    (by rw [← rgF_rI]; exact srg1_ok (by simp) hm) hJ (by rw [len_rI]; exact hn) (by rw [len_rI]; exact hm)
  rw [len_rI] at hJ'
  refine ⟨zs, J', ?_, sub_up hz (by simp), hJ'⟩
  rw [u_law_nk_lot]
  simp [startA, List.replicate, e1, lotD]
end NL
end
section
set_option Elab.async false
set_option linter.all false
set_option maxRecDepth 100000
set_option maxHeartbeats 1000000
/-! Plain: drawn nets. -/
namespace NL
open PySem PySem.Spec PyProof.Rows L2

section
variable (J : Cell) (rest : Store) (c e : Cell)
theorem h1 : (J :: (rest ++ [c]))[rest.length + 1]? = some c := by simp
theorem u1 : (J :: (rest ++ [c])).set (rest.length + 1) e = J :: (rest ++ [e]) := by simp
end
/-- found.append(x) -/
theorem app_ok {X : FE} {a : Env} {J J' : Cell} {rest : Store} {fd : List PyData} {d : PyData} (h5 : a[5]? = some (some (.r (rest.length + 1)))) (hX : X a (J :: (rest ++ [.l fd])) = .ok (.d d) (J' :: (rest ++ [.l fd]))) (hl : fd.length < 16777216) :
    sDrop (eM "list" mAppend (eVar 5) (aCons X aNil)) a (J :: (rest ++ [.l fd])) = .ok (.nx a) (J' :: (rest ++ [.l (fd ++ [d])])) := by
  rw [s_drop, a_m, a_var, h5]
  simp only [Out.bind_ok, ty_r (h1 J rest (.l fd)), if_true, a_cons, hX, a_nil, app_at _ (h1 J' rest (.l fd)) hl, u1]
abbrev envN (rest : Store) (most : Option AV) (v many form : Nat) (near u : Option AV) : Env := [some (.r 0), most, some (.d (.int (v : Int))), some (.d (.int (many : Int))), some (.d (.int (form : Int))), some (.r (rest.length + 1)), near, u]
theorem lotD_eq (l : List Int) : PyData.tuple (l.map .int) = lotD l := rfl
theorem up_nil (n : Int) : UpF n (-1) [] := trivial
theorem up_le {n k : Int} {l : List Int} (h : UpF n (-1) l) (hk : n ≤ k) : UpF k (-1) l := up_of h.sorted fun x hx => by
  have := h.lt x hx
  omega
theorem take_lit {m : Nat} (h : 2 ≤ m) (g : Bool) {n : Nat} {J : Cell} (hJ : Jr n J) (hn : n ≤ 2 ^ 500) (rest : Store) (k : Nat) (hk : 0 < k) (hk2 : k ≤ 16777216) : ∃ (r : Nat) (J' : Cell), (eCall (ofN 2 (D g "_law_take" m)) (aCons (eVar 0) (aCons (eC (.int (k : Int))) aNil))) = (eCall (ofN 2 (D g "_law_take" m)) (aCons (eVar 0) (aCons (eC (.int (k : Int))) aNil))) ∧ D g "_law_take" m [.r 0, .d (.int (k : Int))] (J :: rest) = .ok (.d (.int (r : Int))) (J' :: rest) ∧ r < k ∧ Jr (n + 1) J' := by
  obtain ⟨r, J', e, h1, h2⟩ := s_take h g hJ hn rest hk hk2
  exact ⟨r, J', rfl, e, h1, h2⟩
/-- tuple(sorted(mixed(jar, list(range(v)))[:take(jar, k)])) -/
theorem mix_cut {m : Nat} (h : 3 ≤ m) {g : Bool} {n v k : Nat} {J : Cell} {rest : Store} {a : Env} {fk : FE} (h0 : a[0]? = some (some (.r 0))) (h2 : a[2]? = some (some (.d (.int (v : Int))))) (hf : ∀ s, fk a s = .ok (.d (.int (k : Int))) s) (hk : 0 < k) (hk2 : k ≤ 16777216) (hv : v ≤ 64) (hJ : Jr n J) (hn : n ≤ 2 ^ 300) :
    ∃ (ls : List Int) (J' : Cell), eCB gTuple (aCons (eCB gSort (aCons (eSl (eCall (ofN 2 (D g "_law_mixed" m)) (aCons (eVar 0) (aCons (frzF (nLRg (rg1 (eVar 2)))) aNil))) oNone (oSome (eCall (ofN 2 (D g "_law_take" m)) (aCons (eVar 0) (aCons fk aNil))))) aNil)) aNil) a (J :: rest) = .ok (.d (lotD ls)) (J' :: rest) ∧ UpF v (-1) ls ∧ Jr (n + 100) J' := by
  have e1 : ∀ s, nLRg (rg1 (eVar 2)) a s = .ok (.l ((rI 0 v).map .int)) s := fun s => by
    rw [nlrg_ok (i := 0) (j := v) (s := s) ?q (by omega) (by omega)]
    case q => simp [h2]
    rw [rgD_rI]
    simp
  obtain ⟨ys, J1, e2, hJ1, hp⟩ := s_mixed h g hJ (lst_d rest ((rI 0 v).map .int)) (by rw [List.length_map, len_rI]; omega) (by rw [List.length_map, len_rI]; omega)
  rw [List.length_map, len_rI] at hJ1
  obtain ⟨r, J2, e3, hr, hJ2⟩ := s_take (m := m) (by omega) g hJ1 (by omega) rest hk hk2
  obtain ⟨zs, rfl, hz⟩ := perm_int hp
  obtain ⟨ws, ew, hw⟩ := sub_int (cut_sub (zs.map .int) none (some (r : Int)))
  have nd : zs.Nodup := hz.nodup_iff.mpr (nodup_lt (rI_lt v 0))
  refine ⟨sortI ws, J2, ?_, sort_up (List.Nodup.sublist hw nd) (fun x hx => ?_), hJ2.up (by omega)⟩
  · have es : ∀ s, fSl s (.d (.list (zs.map .int))) none (some (r : Int)) = some (.d (.list (ws.map .int))) := fun s => by simp only [fSl, vw, ew]
    simp [h0, e1, e2, hf, e3, es, srt_l, lotD]
  · have := mem_rI.mp (hz.subset (hw.subset hx))
    omega
theorem net_body {m : Nat} (h : 3 ≤ m) {g : Bool} {n v many form : Nat} {J : Cell} {rest : Store} {fd : List PyData} {most near u : Option AV} (hv : v < many) (hm : many ≤ 40) (hform : form < 8) (hJ : Jr n J) (hn : n ≤ 2 ^ 300) (hl : fd.length < 16777216) :
    ∃ (ls : List Int) (J' : Cell) (near' : Option AV), b0_law_nk_net g m (envN rest most v many form near u) (J :: (rest ++ [.l fd])) = .ok (.nx (envN rest most v many form near' u)) (J' :: (rest ++ [.l (fd ++ [lotD ls])])) ∧ UpF v (-1) ls ∧ Jr (n + 200) J' := by
  -- near
  have eN : ∀ s, eTRg (rg2 (eCB gMax (aCons (eC (.int 0)) (aCons (eOp fSub (eVar 2) (eC (.int 4))) aNil))) (eVar 2)) (envN rest most v many form near u) s = .ok (.d (lotD (rI (v - 4) (v - (v - 4))))) s := fun s => by
    rw [etrg_ok (i := v - 4) (j := v) (s := s) ?q (by omega) (by omega), rgD_rI]
    case q =>
      have : (if 4 < (v : Int) then (v : Int) - 4 else 0) = ((v - 4 : Nat) : Int) := by split <;> omega
      simp [max_i, this]
    rfl
  let nr : List Int := rI (v - 4) (v - (v - 4))
  let E : Env := envN rest most v many form (some (.d (lotD nr))) u
  have h0 : E[0]? = some (some (.r 0)) := rfl
  have h2 : E[2]? = some (some (.d (.int (v : Int)))) := rfl
  have h3 : E[3]? = some (some (.d (.int (many : Int)))) := rfl
  have h4 : E[4]? = some (some (.d (.int (form : Int)))) := rfl
  have h5 : E[5]? = some (some (.r (rest.length + 1))) := rfl
  have h6 : E[6]? = some (some (.d (lotD nr))) := rfl
  have enter : b0_law_nk_net g m (envN rest most v many form near u) (J :: (rest ++ [.l fd])) = _ := xb0_law_nk_net g m _ _
  rw [s_seq, s_asg, eN, Out.bind_ok] at enter
  simp only [envN, g_nm, List.set_cons_zero, List.set_cons_succ] at enter
  have near_sub : ∀ {lo hi : Option Int}, ∃ ws : List Int, (∀ s, fSl s (.d (lotD nr)) lo hi = some (.d (lotD ws))) ∧ UpF v (-1) ws := fun {lo hi} => by
    obtain ⟨ws, ew, hw⟩ := sub_int (cut_sub (nr.map .int) lo hi)
    refine ⟨ws, fun s => ?_, sub_up hw (by omega)⟩
    simp only [fSl, vw, lotD, ew]
  have fin : ∀ {X : FE} {ls : List Int} {J' : Cell}, X E (J :: (rest ++ [.l fd])) = .ok (.d (lotD ls)) (J' :: (rest ++ [.l fd])) → sDrop (eM "list" mAppend (eVar 5) (aCons X aNil)) E (J :: (rest ++ [.l fd])) = .ok (.nx E) (J' :: (rest ++ [.l (fd ++ [lotD ls])])) := fun hX => app_ok h5 hX hl
  have tst : ∀ (k : Int) (s : Store), tOf (eOp fEq (eVar 4) (eC (.int k))) E s = .ok (decide ((form : Int) = k)) s := fun k s => by simp [E]
  have ite : ∀ (k : Int) (f1 f2 : FS) (s : Store), sIf (tOf (eOp fEq (eVar 4) (eC (.int k)))) f1 f2 E s = if (form : Int) = k then f1 E s else f2 E s := fun k f1 f2 s => by
    rw [s_if, tst, Out.bind_ok]
    simp
  rw [show [some (AV.r 0), most, some (.d (.int (v : Int))), some (.d (.int (many : Int))), some (.d (.int (form : Int))), some (.r (rest.length + 1)), some (.d (lotD (rI (v - 4) (v - (v - 4))))), u] = E from rfl] at enter
  simp only [ite] at enter
  unfold envN at *
  rw [enter]
  clear enter ite tst eN
  by_cases f0 : form = 0
  · obtain ⟨ws, ew, hw⟩ := near_sub (lo := some (-1)) (hi := none)
    refine ⟨ws, J, some (.d (lotD nr)), ?_, hw, hJ.up (by omega)⟩
    rw [if_pos (by omega)]
    exact fin (by simp [h6, ew])
  rw [if_neg (by omega)]
  by_cases f1 : form = 1
  · rw [if_pos (by omega)]
    by_cases v0 : v = 0
    · refine ⟨[], J, some (.d (lotD nr)), ?_, up_nil _, hJ.up (by omega)⟩
      exact fin (by subst v0; simp [E, lotD])
    · obtain ⟨r, J', e, hr, hJ'⟩ := s_take (m := m) (by omega) g hJ (by omega) (rest ++ [.l fd]) (k := v) (by omega) (by omega)
      refine ⟨[(r : Int)], J', some (.d (lotD nr)), ?_, ⟨⟨by omega, by omega⟩, trivial⟩, hJ'.up (by omega)⟩
      have one : 1 ≤ sizeLine := by rw [size_lit]; omega
      have vp : 0 < v := by omega
      exact fin (by simp [E, e, one, vp, lotD])
  rw [if_neg (by omega)]
  by_cases f2 : form = 2
  · rw [if_pos (by omega)]
    obtain ⟨ls, J', e, hu, hJ'⟩ := mix_cut h (g := g) (v := v) (k := 3) (J := J) (rest := rest ++ [.l fd]) (a := E) (fk := eC (.int 3)) h0 h2 (fun s => rfl) (by omega) (by omega) (by omega) hJ hn
    exact ⟨ls, J', some (.d (lotD nr)), fin e, hu, hJ'.up (by omega)⟩
  rw [if_neg (by omega)]
  by_cases f3 : form = 3
  · rw [if_pos (by omega)]
    have ln : nr.length ≤ 40 := by rw [len_rI]; omega
    obtain ⟨zs, J', e, hJ', hz⟩ := draw_lc (m := m) (by omega) (g := g) (src := sAny (eVar 6)) (j := 7) (k := 2) (e := E) (fk := eC (.int 2)) (l := nr) (rest := rest ++ [.l fd]) (by simp [E]) h0 (by omega) (by omega) (by omega) (fun z s => rfl) (by simp [h6, lot_src]) hJ (by omega) (by omega)
    refine ⟨zs, J', some (.d (lotD nr)), ?_, sub_up hz (by omega), hJ'.up (by omega)⟩
    exact fin (by simp [e, lotD])
  rw [if_neg (by omega)]
  by_cases f4 : form = 4
  · rw [if_pos (by omega)]
    obtain ⟨ls, J', e, hu, hJ'⟩ := mix_cut h (g := g) (v := v) (k := v + 1) (J := J) (rest := rest ++ [.l fd]) (a := E) (fk := eOp fAdd (eVar 2) (eC (.int 1))) h0 h2 (fun s => by simp [h2]) (by omega) (by omega) (by omega) hJ hn
    exact ⟨ls, J', some (.d (lotD nr)), fin e, hu, hJ'.up (by omega)⟩
  rw [if_neg (by omega)]
  by_cases f5 : form = 5
  · rw [if_pos (by omega)]
    have d2 : ∀ s, fDiv s (.d (.int (many : Int))) (.d (.int 2)) = some (.d (.int ((many / 2 : Nat) : Int))) := fun s => by
      have := div_n s (many : Int) (k := 2) (by omega) (by omega)
      rw [show ((2 : Nat) : Int) = 2 from rfl] at this
      rw [this]
      simp
    by_cases hq : many / 2 ≤ v
    · obtain ⟨ls, J', e, hu, hJ'⟩ := s_lot (m := m) (by omega) g hJ (rest ++ [.l fd]) (many := many / 2) (part := 4) (by omega) (by omega) (by omega) (by omega)
      rw [show ((4 : Nat) : Int) = 4 from rfl] at e
      have hq' : ((many / 2 : Nat) : Int) ≤ v := by omega
      refine ⟨ls, J', some (.d (lotD nr)), ?_, up_le hu (by omega), hJ'.up (by omega)⟩
      refine fin ?_
      simp only [a_if, a_tof, a_op, a_var, h2, h3, h0, Out.bind_ok, a_c, d2, lift_some, fge_i, tru_b, decide_eq_true hq', if_true, a_call, a_cons, a_nil, a_ofn, List.length_cons, List.length_nil]
      exact e
    · have hq' : ¬ ((many / 2 : Nat) : Int) ≤ v := by omega
      refine ⟨[], J, some (.d (lotD nr)), ?_, up_nil _, hJ.up (by omega)⟩
      refine fin ?_
      simp only [a_if, a_tof, a_op, a_var, h2, h3, Out.bind_ok, a_c, d2, lift_some, fge_i, tru_b, decide_eq_false hq', Bool.false_eq_true, if_false, a_tup, a_nil]
      simp [lotD]
  rw [if_neg (by omega)]
  by_cases f6 : form = 6
  · rw [if_pos (by omega)]
    by_cases hq : v + 1 = many
    · have hq' : (v : Int) = (many : Int) - 1 := by omega
      refine ⟨rI 0 v, J, some (.d (lotD nr)), ?_, sub_up (List.Sublist.refl _) (by omega), hJ.up (by omega)⟩
      refine fin ?_
      have e1 : ∀ s, eTRg (rg1 (eVar 2)) E s = .ok (.d (lotD (rI 0 v))) s := fun s => by
        rw [etrg_ok (i := 0) (j := v) (s := s) ?q (by omega) (by omega), rgD_rI]
        case q => simp [h2]
        rfl
      simp [h2, h3, hq', e1]
    · have hq' : ¬ (v : Int) = (many : Int) - 1 := by omega
      obtain ⟨r, J', e, hr, hJ'⟩ := s_take (m := m) (by omega) g hJ (by omega) (rest ++ [.l fd]) (k := 2) (by omega) (by omega)
      rw [show ((2 : Nat) : Int) = 2 from rfl] at e
      obtain ⟨ws, ew, hw⟩ := near_sub (lo := none) (hi := some (r : Int))
      refine ⟨ws, J', some (.d (lotD nr)), ?_, hw, hJ'.up (by omega)⟩
      exact fin (by simp [h0, h2, h3, h6, hq', e, ew])
  rw [if_neg (by omega)]
  obtain ⟨zs, J', e, hJ', hz⟩ := draw_lc (m := m) (by omega) (g := g) (src := sRg1 (aCons (eVar 2) aNil)) (j := 7) (k := 6) (e := E) (fk := eC (.int 6)) (l := rI 0 v) (rest := rest ++ [.l fd]) (by simp [E]) h0 (by omega) (by omega) (by omega) (fun z s => rfl)
    (by rw [← rgF_rI]; exact srg1_ok (by simp [h2]) (by omega)) hJ (by rw [len_rI]; omega) (by rw [len_rI]; omega)
  rw [len_rI] at hJ'
  refine ⟨zs, J', some (.d (lotD nr)), ?_, sub_up hz (by omega), hJ'.up (by omega)⟩
  exact fin (by simp [e, lotD])
end NL
end
section
set_option Elab.async false
set_option linter.all false
set_option maxRecDepth 100000
set_option maxHeartbeats 1000000
/-! Plain: drawn nets, whole; drawn webs. -/
namespace NL
open PySem PySem.Spec PyProof.Rows L2

theorem dnet_loop {m : Nat} (h : 3 ≤ m) {g : Bool} {many form : Nat} {rest : Store} {most u : Option AV} (hm : many ≤ 40) (hform : form < 8) : ∀ (k : Nat) (N : List (List Int)) (n : Nat) (J : Cell) (v near : Option AV), N.length + k = many → (∀ i < N.length, UpF (i : Int) (-1) (atN N i)) → Jr n J → n + 200 * k ≤ 2 ^ 300 →
    ∃ (N' : List (List Int)) (J' : Cell) (v' near' : Option AV), forL (gNm 2) (b0_law_nk_net g m) (rgF N.length k) [some (.r 0), most, v, some (.d (.int (many : Int))), some (.d (.int (form : Int))), some (.r (rest.length + 1)), near, u] (J :: (rest ++ [.l (N.map lotD)])) = .ok (.nx [some (.r 0), most, v', some (.d (.int (many : Int))), some (.d (.int (form : Int))), some (.r (rest.length + 1)), near', u]) (J' :: (rest ++ [.l (N'.map lotD)])) ∧ Net N' ∧ Jr (n + 200 * k) J'
  | 0, N, n, J, v, near, hl, hN, hJ, _ => ⟨N, J, v, near, rfl, ⟨by omega, hN⟩, hJ⟩
  | k + 1, N, n, J, v, near, hl, hN, hJ, hn => by
    obtain ⟨ls, J1, near1, e1, hu, hJ1⟩ := net_body h (g := g) (n := n) (v := N.length) (many := many) (form := form) (J := J) (rest := rest) (fd := N.map lotD) (most := most) (near := near) (u := u) (by omega) hm hform hJ (by omega) (by simp; omega)
    have hN' : ∀ i < (N ++ [ls]).length, UpF (i : Int) (-1) (atN (N ++ [ls]) i) := fun i hi => by
      rw [List.length_append, List.length_singleton] at hi
      by_cases q : i < N.length
      · have e : atN (N ++ [ls]) i = atN N i := by
          unfold atN
          rw [List.getElem?_append_left q]
        rw [e]
        exact hN i q
      · have qi : i = N.length := by omega
        subst qi
        have e : atN (N ++ [ls]) N.length = ls := by
          unfold atN
          simp
        rw [e]
        exact hu
    obtain ⟨N2, J2, v2, near2, e2, hN2, hJ2⟩ := dnet_loop h (g := g) (rest := rest) (most := most) (u := u) hm hform k (N ++ [ls]) (n + 200) J1 (some (.d (.int (N.length : Int)))) near1 (by simp; omega) hN' hJ1 (by omega)
    refine ⟨N2, J2, v2, near2, ?_, hN2, hJ2.up (by omega)⟩
    rw [rgF]
    unfold forL
    simp only [g_nm, List.set_cons_succ, List.set_cons_zero]
    rw [e1]
    rw [List.map_append, List.length_append] at e2
    exact e2
theorem s_net {m : Nat} (h : 4 ≤ m) (g : Bool) {n most : Nat} {J : Cell} (hJ : Jr n J) (rest : Store) (hn : n + 9000 ≤ 2 ^ 300) (hm : most ≤ 40) : ∃ (N : List (List Int)) (J' : Cell), D g "_law_nk_net" m [.r 0, .d (.int (most : Int))] (J :: rest) = .ok (.d (netD N)) (J' :: rest) ∧ Net N ∧ Jr (n + 9000) J' := by
  obtain ⟨q, rfl⟩ := up2 (m := m) (by omega)
  obtain ⟨many, J1, e1, hmany, hJ1⟩ := s_take (m := q + 1) (by omega) g hJ (by omega) rest (k := most + 1) (by omega) (by omega)
  obtain ⟨form, J2, e2, hform, hJ2⟩ := s_take (m := q + 1) (by omega) g hJ1 (by omega) rest (k := 8) (by omega) (by omega)
  rw [show ((8 : Nat) : Int) = 8 from rfl] at e2
  rw [show ((most + 1 : Nat) : Int) = (most : Int) + 1 from by omega] at e1
  obtain ⟨N, J3, v3, near3, loop, hN, hJ3⟩ := dnet_loop (m := q + 1) (by omega) (g := g) (many := many) (form := form) (rest := rest) (most := some (.d (.int (most : Int)))) (u := none) (by omega) (by omega) many [] (n + 1 + 1) J2 none none (by simp) (fun i hi => by simp at hi) hJ2 (by omega)
  refine ⟨N, J3, ?_, hN, hJ3.up (by omega)⟩
  rw [u_law_nk_net]
  simp [startA, List.replicate, e1, e2]
  rw [for_xs _ _ _ (srg1_ok (s := J2 :: (rest ++ [.l []])) (n := many) ?h1 (by omega))]
  case h1 => simp
  simp at loop
  rw [loop]
  simp [gtup_r _ (h1 J3 rest (.l (N.map lotD))), netD]
/-! webs, of any form -/
theorem web_turn {m : Nat} (h : 2 ≤ m) {g : Bool} {part form : Nat} {a0 : Int} {e1 e3 e5 e7 : Option AV} (hp : 0 < part) (hp2 : part ≤ 16777216) {rest : Store} (v : Int) {n : Nat} {J : Cell} (hJ : Jr n J) (hn : n ≤ 2 ^ 400) :
    ∃ o J', lcTurn (gNm 7) (tAnd' (tOf (eOp fEq (eCall (ofN 2 (D g "_law_take" m)) (aCons (eVar 0) (aCons (eVar 2) aNil))) (eC (.int 0)))) (tOr' (tOf (eOp fLt (eVar 6) (eC (.int 4)))) (tOf (eOp fLt (eVar 7) (eOp fAdd (eVar 4) (eC (.int 4))))))) (eTup (aCons (eVar 4) (aCons (eVar 7) aNil))) [7] [some (.r 0), e1, some (.d (.int (part : Int))), e3, some (.d (.int a0)), e5, some (.d (.int (form : Int))), e7] (.d (.int v)) (J :: rest) = .ok o (J' :: rest) ∧ Jr (n + 1) J' ∧ (o = none ∨ o = some (pairD (a0, v))) := by
  obtain ⟨r, J', e, hr, hJ'⟩ := s_take h g hJ (by omega) rest (k := part) hp hp2
  by_cases hz : r = 0
  · subst hz
    rw [show ((0 : Nat) : Int) = 0 from rfl] at e
    by_cases hq : (form : Int) < 4
    · refine ⟨some (pairD (a0, v)), J', ?_, hJ', .inr rfl⟩
      simp [lcTurn, wipeA, quiet, e, hq, two_size, pairD]
    · by_cases hq2 : v < a0 + 4
      · refine ⟨some (pairD (a0, v)), J', ?_, hJ', .inr rfl⟩
        simp [lcTurn, wipeA, quiet, e, hq, hq2, two_size, pairD]
      · refine ⟨none, J', ?_, hJ', .inl rfl⟩
        simp [lcTurn, wipeA, quiet, e, hq, hq2]
  · refine ⟨none, J', ?_, hJ', .inl rfl⟩
    simp [lcTurn, wipeA, quiet, e, hz]
theorem web_loop2 {m : Nat} (h : 2 ≤ m) {g : Bool} {part form nn : Nat} {rest : Store} {most : Option AV} (hp : 0 < part) (hp2 : part ≤ 16777216) (hnn : nn ≤ 64) : ∀ (k i n : Nat) (J : Cell) (fd : List PyData) (a b : Option AV), i + k ≤ nn → Jr n J → n + 64 * k ≤ 2 ^ 300 → fd.length + 64 * k ≤ 16777216 → (∀ d ∈ fd, ∃ p, d = pairD p) →
    ∃ (fd' : List PyData) (J' : Cell) (a' : Option AV), forL (gNm 4) (b0_law_nk_web g m) (rgF i k) [some (.r 0), most, some (.d (.int (part : Int))), some (.r (rest.length + 1)), a, some (.d (.int (nn : Int))), some (.d (.int (form : Int))), b] (J :: (rest ++ [.l fd])) = .ok (.nx [some (.r 0), most, some (.d (.int (part : Int))), some (.r (rest.length + 1)), a', some (.d (.int (nn : Int))), some (.d (.int (form : Int))), b]) (J' :: (rest ++ [.l fd'])) ∧ Jr (n + 64 * k) J' ∧ ∀ d ∈ fd', ∃ p, d = pairD p
  | 0, i, n, J, fd, a, b, _, hJ, _, _, hd => ⟨fd, J, a, rfl, hJ, hd⟩
  | k + 1, i, n, J, fd, a, b, hi, hJ, hn, hl, hd => by
    let F : AV → PyData := fun x => match x with
      | .d (.int v) => pairD ((i : Int), v)
      | _ => .none
    obtain ⟨ys, J1, e1, hJ1, hsub⟩ := nlc_jar (c := 1) (src := sRg2 (aCons (eOp fAdd (eVar 4) (eC (.int 1))) (aCons (eVar 5) aNil))) (tg := gNm 7) (tt := tAnd' (tOf (eOp fEq (eCall (ofN 2 (D g "_law_take" m)) (aCons (eVar 0) (aCons (eVar 2) aNil))) (eC (.int 0)))) (tOr' (tOf (eOp fLt (eVar 6) (eC (.int 4)))) (tOf (eOp fLt (eVar 7) (eOp fAdd (eVar 4) (eC (.int 4)))))))
      (fe := eTup (aCons (eVar 4) (aCons (eVar 7) aNil))) (own := [7]) (l := rgF (i + 1) (nn - (i + 1))) (a := [some (.r 0), most, some (.d (.int (part : Int))), some (.r (rest.length + 1)), some (.d (.int (i : Int))), some (.d (.int (nn : Int))), some (.d (.int (form : Int))), b]) (J := J) (rest := rest ++ [.l fd]) (n := n) F
      (srg2_ok (by simp) (by omega) (by omega)) (fun x hx n J hJ hn => by
        obtain ⟨j, _, _, rfl⟩ := mem_rgF hx
        exact web_turn h (g := g) hp hp2 (j : Int) hJ hn) hJ (by rw [len_rgF]; omega) (by rw [len_rgF]; omega)
    rw [len_rgF] at hJ1
    have ly : ys.length ≤ 64 := by
      have := hsub.length_le
      rw [List.length_map, len_rgF] at this
      omega
    have hy : ∀ d ∈ fd ++ ys, ∃ p, d = pairD p := fun d hm => by
      rcases List.mem_append.mp hm with hm | hm
      · exact hd d hm
      · obtain ⟨x, hx, rfl⟩ := List.mem_map.mp (hsub.subset hm)
        obtain ⟨j, _, _, rfl⟩ := mem_rgF hx
        exact ⟨_, rfl⟩
    obtain ⟨fd2, J2, a2, e2, hJ2, hd2⟩ := web_loop2 h (g := g) (part := part) (form := form) (rest := rest) (most := most) hp hp2 hnn k (i + 1) (n + 64) J1 (fd ++ ys) (some (.d (.int (i : Int)))) b (by omega) (hJ1.up (by omega)) (by omega) (by rw [List.length_append]; omega) hy
    refine ⟨fd2, J2, a2, ?_, hJ2.up (by omega), hd2⟩
    rw [rgF]
    unfold forL
    simp only [g_nm, List.set_cons_succ, List.set_cons_zero]
    rw [xb0_law_nk_web, s_drop, a_m, a_var]
    simp only [List.getElem?_cons_zero, List.getElem?_cons_succ, Out.bind_ok, ty_r (h1 J rest (.l fd)), if_true, a_cons, a_frz, e1, frz_l, a_nil, extend_at _ (h1 J1 rest (.l fd)) (show fd.length + ys.length ≤ 16777216 by omega), u1]
    exact e2
theorem s_web {m : Nat} (h : 3 ≤ m) (g : Bool) {n most : Nat} {J : Cell} (hJ : Jr n J) (rest : Store) (hn : n + 9000 ≤ 2 ^ 300) (hm : most ≤ 60) : ∃ (x : PyData) (J' : Cell), D g "_law_nk_web" m [.r 0, .d (.int (most : Int))] (J :: rest) = .ok (.d x) (J' :: rest) ∧ Nice 3 x = true ∧ Jr (n + 9000) J' := by
  obtain ⟨q, rfl⟩ := up2 (m := m) (by omega)
  obtain ⟨nn, J1, e1, hnn, hJ1⟩ := s_take (m := q + 1) (by omega) g hJ (by omega) rest (k := most + 1) (by omega) (by omega)
  obtain ⟨form, J2, e2, hform, hJ2⟩ := s_take (m := q + 1) (by omega) g hJ1 (by omega) rest (k := 5) (by omega) (by omega)
  rw [show ((5 : Nat) : Int) = 5 from rfl] at e2
  rw [show ((most + 1 : Nat) : Int) = (most : Int) + 1 from by omega] at e1
  have hpart : ∃ part : Nat, 0 < part ∧ part ≤ 16777216 ∧ atI [PyData.int 1, .int 2, .int 3, .int 6, .int 12] (form : Int) = some (.int (part : Int)) := by
    rw [at_nat]
    match form, hform with
    | 0, _ => exact ⟨1, by omega, by omega, rfl⟩
    | 1, _ => exact ⟨2, by omega, by omega, rfl⟩
    | 2, _ => exact ⟨3, by omega, by omega, rfl⟩
    | 3, _ => exact ⟨6, by omega, by omega, rfl⟩
    | 4, _ => exact ⟨12, by omega, by omega, rfl⟩
  obtain ⟨part, hp, hp2, hat⟩ := hpart
  obtain ⟨fd, J3, a3, loop, hJ3, hd⟩ := web_loop2 (m := q + 1) (by omega) (g := g) (part := part) (form := form) (nn := nn) (rest := rest) (most := some (.d (.int (most : Int)))) hp hp2 (by omega) nn 0 (n + 1 + 1) J2 [] none none (by omega) hJ2 (by omega) (by simp; omega) (fun d hd => by cases hd)
  have five : 5 ≤ sizeLine := by rw [size_lit]; omega
  have hc : (cutD fd none (some 400)).length ≤ 400 := by
    unfold cutD
    rw [List.length_take]
    have : HT.sIx fd.length fd.length (some 400) ≤ 400 := by
      have := HT.sIx_nat fd.length fd.length 400
      rw [show ((400 : Nat) : Int) = 400 from rfl] at this
      rw [this]
      omega
    omega
  refine ⟨.tuple [.int nn, .tuple (cutD fd none (some 400))], J3, ?_, ?_, hJ3.up (by omega)⟩
  · rw [u_law_nk_web]
    simp [startA, List.replicate, e1, e2, five, hat]
    rw [for_xs _ _ _ (srg1_ok (s := J2 :: (rest ++ [.l []])) (n := nn) ?h1 (by omega)), loop]
    case h1 => simp
    have ef : fSl (J3 :: (rest ++ [.l fd])) (.r (rest.length + 1)) none (some 400) = some (.d (.list (cutD fd none (some 400)))) := by
      simp only [fSl, vw, h1 J3 rest (.l fd)]
    simp [ef, two_size]
  · refine nice_t.mpr ⟨by simp, fun y hy => ?_⟩
    simp only [List.mem_cons, List.not_mem_nil, or_false] at hy
    rcases hy with rfl | rfl
    · exact nice_i _ _
    · refine nice_t.mpr ⟨by omega, fun z hz => ?_⟩
      obtain ⟨p, rfl⟩ := hd z ((cut_sub _ _ _).subset hz)
      refine nice_t.mpr ⟨by simp, fun w hw => ?_⟩
      simp only [List.mem_cons, List.not_mem_nil, or_false] at hw
      rcases hw with rfl | rfl <;> exact nice_i _ _
end NL
end
section
set_option Elab.async false
set_option linter.all false
set_option maxRecDepth 100000
set_option maxHeartbeats 1000000
/-! Plain: things bent. -/
namespace NL
open PySem PySem.Spec PyProof.Rows L2

/-- numbers and tuples alone, at most 1,000 long -/
def Slim : Nat → PyData → Bool
  | d, x => match x with
    | .int _ => true
    | .tuple xs => match d with
      | 0 => false
      | d + 1 => decide (xs.length ≤ 1000) && xs.all (Slim d)
    | _ => false
theorem slim_t {d : Nat} {xs : List PyData} : Slim (d + 1) (.tuple xs) = true ↔ xs.length ≤ 1000 ∧ ∀ x ∈ xs, Slim d x = true := by
  rw [Slim]
  simp [List.all_eq_true]
theorem slim_i (d : Nat) (i : Int) : Slim d (.int i) = true := by cases d <;> rfl
theorem slim_cases {d : Nat} {x : PyData} (h : Slim d x = true) : (∃ i, x = .int i) ∨ ∃ k xs, d = k + 1 ∧ x = .tuple xs ∧ xs.length ≤ 1000 ∧ ∀ y ∈ xs, Slim k y = true := by
  cases x with
  | int i => exact .inl ⟨i, rfl⟩
  | tuple xs =>
    cases d with
    | zero => cases h
    | succ k => exact .inr ⟨k, xs, rfl, rfl, slim_t.mp h⟩
  | _ => cases d <;> cases h
theorem slim_nice : ∀ {d : Nat} {x : PyData}, Slim d x = true → Nice d x = true
  | d, x, h => by
    rcases slim_cases h with ⟨i, rfl⟩ | ⟨k, xs, rfl, rfl, h1, h2⟩
    · exact nice_i _ _
    · exact nice_t.mpr ⟨by omega, fun y hy => slim_nice (h2 y hy)⟩
theorem pow30 (st : Store) : fPow st (.d (.int 10)) (.d (.int 30)) = some (.d (.int 1000000000000000000000000000000)) := by
  simp [fPow, onI]
theorem fsl_t (st : Store) (xs : List PyData) (lo hi : Option Int) : fSl st (.d (.tuple xs)) lo hi = some (.d (.tuple (cutD xs lo hi))) := rfl
theorem hlist_t (st : Store) (xs : List PyData) : hList st [.d (.tuple xs)] = some (.l xs) := rfl
def odd0 : List PyData := [.none, .bool true, .bool false, .str "0", .tuple [], .list [], .tuple [.int 0], .int (-1), .int 60, .int 61, .int 40, .int 1000000000000000000000000000000, .int 1]
theorem odd0_nice : ∀ y ∈ odd0, Nice 1 y = true := by
  intro y hy
  simp only [odd0, List.mem_cons, List.not_mem_nil, or_false] at hy
  rcases hy with rfl | rfl | rfl | rfl | rfl | rfl | rfl | rfl | rfl | rfl | rfl | rfl | rfl
  all_goals first
    | rfl
    | exact nice_i _ _
theorem s_odd {m : Nat} (h : 4 ≤ m) (g : Bool) {n d : Nat} {J : Cell} (hJ : Jr n J) (rest : Store) (hn : n ≤ 2 ^ 400) {part : PyData} (hp : Slim d part = true) : ∃ (x : PyData) (J' : Cell), D g "_law_nw6_odd" m [.r 0, .d part] (J :: rest) = .ok (.d x) (J' :: rest) ∧ Nice (d + 1) x = true ∧ Jr (n + 1) J' := by
  obtain ⟨q, rfl⟩ := up2 (m := m) (by omega)
  have big : ∀ k : Nat, k ≤ 100 → k ≤ sizeLine := fun k hk => by rw [size_lit]; omega
  have s0 : 0 ≤ sizeLine := Nat.zero_le _
  have s1 := big 1 (by omega)
  have s2 := big 2 (by omega)
  have s5 := big 5 (by omega)
  have s9 := big 9 (by omega)
  have s13 := big 13 (by omega)
  rcases slim_cases hp with ⟨i, rfl⟩ | ⟨k, xs, rfl, rfl, hx1, hx2⟩
  · let so : List PyData := odd0 ++ [.int (i + 1), .int (i - 1), .int (i + 1), .int (i - 1), .int 0]
    obtain ⟨x, J', e, hx, hJ'⟩ := s_one_r (m := q + 1) (by omega) g hJ (by omega) (rest ++ [.l so]) (l := rest.length) (xs := so) (by simp) (by simp [so, odd0]) (by simp [so, odd0])
    refine ⟨x, J', ?_, ?_, hJ'⟩
    · rw [u_law_nw6_odd]
      have ex := extend_at (J :: (rest ++ [.l odd0])) (ys := [.int (i + 1), .int (i - 1), .int (i + 1), .int (i - 1), .int 0]) (h1 J rest (.l odd0)) (by simp [odd0])
      rw [u1] at ex
      have ty := ty_r (h1 J rest (.l odd0))
      have eo : [PyData.none, .bool true, .bool false, .str "0", .tuple [], .list [], .tuple [.int 0], .int (-1), .int 60, .int 61, .int 40, .int 1000000000000000000000000000000, .int 1] = odd0 := rfl
      simp [startA, List.replicate, tyS, isiB, pow30, s1, s5, s13]
      rw [eo, ex]
      simp [so] at e
      simp [e]
    · rcases List.mem_append.mp hx with hx | hx
      · exact nice_up (odd0_nice x hx) (by omega)
      · simp only [List.mem_cons, List.not_mem_nil, or_false] at hx
        rcases hx with rfl | rfl | rfl | rfl | rfl <;> exact nice_i _ _
  · have c1 : ∀ lo hi, (cutD xs lo hi).length ≤ 1000 := fun lo hi => Nat.le_trans (cut_sub xs lo hi).length_le hx1
    have c2 : ∀ lo hi, ∀ y ∈ cutD xs lo hi, Nice k y = true := fun lo hi y hy => slim_nice (hx2 y ((cut_sub xs lo hi).subset hy))
    let so : List PyData := [.list xs, .tuple (cutD xs none (some (-1))), .tuple (cutD xs (some 1) none), .tuple (xs ++ cutD xs (some (-1)) none), .tuple xs.reverse, .tuple (xs ++ [.int 0]), .none, .int 0, .tuple [.tuple xs]]
    obtain ⟨x, J', e, hx, hJ'⟩ := s_one_r (m := q + 1) (by omega) g hJ (by omega) (rest ++ [.l odd0, .l so]) (l := rest.length + 1) (xs := so) (by simp) (by simp [so]) (by simp [so])
    refine ⟨x, J', ?_, ?_, hJ'⟩
    · rw [u_law_nw6_odd]
      have eo : [PyData.none, .bool true, .bool false, .str "0", .tuple [], .list [], .tuple [.int 0], .int (-1), .int 60, .int 61, .int 40, .int 1000000000000000000000000000000, .int 1] = odd0 := rfl
      have a1 : ∀ s, fAdd s (.d (.tuple xs)) (.d (.tuple (cutD xs (some (-1)) none))) = some (.d (.tuple (xs ++ cutD xs (some (-1)) none))) := fun s => add_t s _ _ (by have := c1 (some (-1)) none; omega)
      have a2 : ∀ s, fAdd s (.d (.tuple xs)) (.d (.tuple [.int 0])) = some (.d (.tuple (xs ++ [.int 0]))) := fun s => add_t s _ _ (by simp; omega)
      simp [startA, List.replicate, tyS, isiB, pow30, s1, s5, s13, s9, hlist_t, fsl_t, a1, a2]
      rw [eo]
      simp [so] at e
      simp [e]
    · have bs : ∀ (z : List PyData), z.length ≤ 2000 → (∀ y ∈ z, Nice k y = true) → Nice (k + 1 + 1) (.tuple z) = true := fun z h1 h2 => nice_up (nice_t.mpr ⟨h1, h2⟩) (by omega)
      have hs : ∀ y ∈ xs, Nice k y = true := fun y hy => slim_nice (hx2 y hy)
      simp only [so, List.mem_cons, List.not_mem_nil, or_false] at hx
      rcases hx with rfl | rfl | rfl | rfl | rfl | rfl | rfl | rfl | rfl
      · exact nice_up (nice_l.mpr ⟨by omega, hs⟩) (by omega)
      · exact bs _ (by have := c1 none (some (-1)); omega) (c2 _ _)
      · exact bs _ (by have := c1 (some 1) none; omega) (c2 _ _)
      · exact bs _ (by have := c1 (some (-1)) none; rw [List.length_append]; omega) (fun y hy => (List.mem_append.mp hy).elim (hs y) (c2 _ _ y))
      · exact bs _ (by simp; omega) (fun y hy => hs y (by simpa using hy))
      · exact bs _ (by simp; omega) (fun y hy => (List.mem_append.mp hy).elim (hs y) fun h => by rw [List.mem_singleton.mp h]; exact nice_i _ _)
      · exact nice_n _
      · exact nice_i _ _
      · refine nice_t.mpr ⟨by simp, fun y hy => ?_⟩
        rw [List.mem_singleton.mp hy]
        exact nice_t.mpr ⟨by omega, hs⟩
theorem feq_nil (st : Store) (x : PyData) (xs : List PyData) : fEq st (.d (.tuple (x :: xs))) (.d (.tuple [])) = some (.d (.bool false)) := by
  have h1 : PyData.eqv (.tuple (x :: xs)) (.tuple []) = false := by simp [PyData.eqv, PyData.eqvAll]
  have h2 : (PyData.tuple []).depth = 1 := by simp [PyData.depth, PyData.depthAll]
  simp [fEq, onD, h1, h2]
  omega
theorem feq_nil0 (st : Store) : fEq st (.d (.tuple [])) (.d (.tuple [])) = some (.d (.bool true)) := by
  have h1 : PyData.eqv (.tuple []) (.tuple []) = true := by simp [PyData.eqv, PyData.eqvAll]
  have h2 : (PyData.tuple []).depth = 1 := by simp [PyData.depth, PyData.depthAll]
  simp [fEq, onD, h1, h2]
theorem cut_len (xs : List PyData) (a : Nat) (ha : a < xs.length) : cutD xs none (some (a : Int)) = xs.take a ∧ cutD xs (some ((a : Int) + 1)) none = xs.drop (a + 1) := by
  constructor
  · unfold cutD
    rw [HT.sIx_none, HT.sIx_nat]
    simp
  · unfold cutD
    rw [HT.sIx_none, show ((a : Int) + 1) = ((a + 1 : Nat) : Int) by omega, HT.sIx_nat]
    rw [show min (a + 1) xs.length = a + 1 by omega]
    apply List.take_of_length_le
    simp
theorem s_bent {g : Bool} : ∀ {d m : Nat} {n : Nat} {J : Cell} {rest : Store} {thing : PyData}, d + 5 ≤ m → Jr n J → n + 10 * d + 10 ≤ 2 ^ 400 → Slim d thing = true →
    ∃ (x : PyData) (J' : Cell), D g "_law_nw6_bent" m [.r 0, .d thing] (J :: rest) = .ok (.d x) (J' :: rest) ∧ Nice (d + 1) x = true ∧ Jr (n + 10 * d + 10) J' := by
  intro d
  induction d with
  | zero =>
    intro m n J rest thing hm hJ hn hp
    obtain ⟨q, rfl⟩ := up2 (m := m) (by omega)
    rcases slim_cases hp with ⟨i, rfl⟩ | ⟨k, xs, h, _⟩
    · obtain ⟨x, J', e, hx, hJ'⟩ := s_odd (m := q + 1) (by omega) g hJ rest (by omega) hp
      refine ⟨x, J', ?_, hx, hJ'.up (by omega)⟩
      rw [u_law_nw6_bent]
      simp [startA, List.replicate, tyS, isiB, e]
    · omega
  | succ d ih =>
    intro m n J rest thing hm hJ hn hp
    obtain ⟨q, rfl⟩ := up2 (m := m) (by omega)
    rcases slim_cases hp with ⟨i, rfl⟩ | ⟨k, xs, h, rfl, hx1, hx2⟩
    · obtain ⟨x, J', e, hx, hJ'⟩ := s_odd (m := q + 1) (by omega) g hJ rest (by omega) hp
      refine ⟨x, J', ?_, hx, hJ'.up (by omega)⟩
      rw [u_law_nw6_bent]
      simp [startA, List.replicate, tyS, isiB, e]
    · obtain rfl : d = k := by omega
      cases xs with
      | nil =>
        obtain ⟨x, J', e, hx, hJ'⟩ := s_odd (m := q + 1) (by omega) g hJ rest (by omega) hp
        refine ⟨x, J', ?_, hx, hJ'.up (by omega)⟩
        rw [u_law_nw6_bent]
        simp [startA, List.replicate, tyS, isiB, e, feq_nil0]
      | cons y0 ys0 =>
        generalize hxs : y0 :: ys0 = xs at *
        have hne : ∀ s, fEq s (.d (.tuple xs)) (.d (.tuple [])) = some (.d (.bool false)) := fun s => by rw [← hxs]; exact feq_nil s _ _
        have hpos : 0 < xs.length := by rw [← hxs]; simp
        obtain ⟨r1, J1, e1, hr1, hJ1⟩ := s_take (m := q + 1) (by omega) g hJ (by omega) rest (k := 6) (by omega) (by omega)
        rw [show ((6 : Nat) : Int) = 6 from rfl] at e1
        by_cases hz : r1 = 0
        · obtain ⟨x, J', e, hx, hJ'⟩ := s_odd (m := q + 1) (by omega) g hJ1 rest (by omega) hp
          refine ⟨x, J', ?_, hx, hJ'.up (by omega)⟩
          subst hz
          rw [u_law_nw6_bent]
          simp [startA, List.replicate, tyS, isiB, e1, e, hne]
        · obtain ⟨a, J2, e2, ha, hJ2⟩ := s_take (m := q + 1) (by omega) g hJ1 (by omega) rest (k := xs.length) (by omega) (by omega)
          have at_a : ∀ s, fSub1 s (.d (.tuple xs)) (.d (.int (a : Int))) = some (.d xs[a]) := fun s => by
            rw [ix_t, at_nat, List.getElem?_eq_getElem ha]; rfl
          obtain ⟨ct1, ct2⟩ := cut_len xs a ha
          -- what is put together
          have put : ∀ {y : PyData}, Nice (d + 1) y = true → (∀ s, fAdd s (.d (.tuple (xs.take a))) (.d (.tuple [y])) = some (.d (.tuple (xs.take a ++ [y])))) ∧ (∀ s, fAdd s (.d (.tuple (xs.take a ++ [y]))) (.d (.tuple (xs.drop (a + 1)))) = some (.d (.tuple (xs.take a ++ [y] ++ xs.drop (a + 1))))) ∧ Nice (d + 1 + 1) (.tuple (xs.take a ++ [y] ++ xs.drop (a + 1))) = true := fun {y} hy => by
            have l1 : (xs.take a).length ≤ 1000 := by rw [List.length_take]; omega
            have l2 : (xs.drop (a + 1)).length ≤ 1000 := by rw [List.length_drop]; omega
            refine ⟨fun s => add_t s _ _ (by simp; omega), fun s => add_t s _ _ (by rw [List.length_append]; simp; omega), nice_t.mpr ⟨by rw [List.length_append, List.length_append]; simp; omega, fun z hz => ?_⟩⟩
            rcases List.mem_append.mp hz with hz | hz
            · rcases List.mem_append.mp hz with hz | hz
              · exact nice_up (slim_nice (hx2 z (List.mem_of_mem_take hz))) (by omega)
              · rw [List.mem_singleton.mp hz]; exact hy
            · exact nice_up (slim_nice (hx2 z (List.mem_of_mem_drop hz))) (by omega)
          have s1 : 1 ≤ sizeLine := by rw [size_lit]; omega
          have hy := hx2 xs[a] (List.getElem_mem ha)
          obtain ⟨r3, J3, e3, hr3, hJ3⟩ := s_take (m := q + 1) (by omega) g hJ2 (by omega) rest (k := 4) (by omega) (by omega)
          rw [show ((4 : Nat) : Int) = 4 from rfl] at e3
          -- the last way: two of them
          have last : ∀ {n : Nat} {J : Cell}, Jr n J → n + 4 ≤ 2 ^ 400 → ∃ (x : PyData) (J' : Cell) (r4 : Nat) (J4 : Cell), D g "_law_take" (q + 1) [.r 0, .d (.int 4)] (J :: rest) = .ok (.d (.int (r4 : Int))) (J4 :: rest) ∧ Nice (d + 1 + 1) x = true ∧ Jr (n + 4) J' ∧
              ((r4 = 0 ∧ ∃ (o : Nat) (ho : o < xs.length), D g "_law_take" (q + 1) [.r 0, .d (.int (xs.length : Int))] (J4 :: rest) = .ok (.d (.int (o : Int))) (J' :: rest) ∧ x = .tuple (xs.take a ++ [xs[o]] ++ xs.drop (a + 1))) ∨
               (r4 ≠ 0 ∧ ∃ y, D g "_law_nw6_odd" (q + 1) [.r 0, .d xs[a]] (J4 :: rest) = .ok (.d y) (J' :: rest) ∧ Nice (d + 1) y = true ∧ x = .tuple (xs.take a ++ [y] ++ xs.drop (a + 1)))) := fun {n J} hJ hn => by
            obtain ⟨r4, J4, e4, hr4, hJ4⟩ := s_take (m := q + 1) (by omega) g hJ (by omega) rest (k := 4) (by omega) (by omega)
            rw [show ((4 : Nat) : Int) = 4 from rfl] at e4
            by_cases h4 : r4 = 0
            · obtain ⟨o, J5, e5, ho, hJ5⟩ := s_take (m := q + 1) (by omega) g hJ4 (by omega) rest (k := xs.length) (by omega) (by omega)
              exact ⟨_, J5, r4, J4, e4, (put (nice_up (slim_nice (hx2 xs[o] (List.getElem_mem ho))) (by omega))).2.2, hJ5.up (by omega), .inl ⟨h4, o, ho, e5, rfl⟩⟩
            · obtain ⟨y, J5, e5, hy5, hJ5⟩ := s_odd (m := q + 1) (by omega) g hJ4 rest (by omega) hy
              exact ⟨_, J5, r4, J4, e4, (put hy5).2.2, hJ5.up (by omega), .inr ⟨h4, y, e5, hy5, rfl⟩⟩
          have nz : (r1 : Int) ≠ 0 := by omega
          rcases slim_cases hy with ⟨i, hi⟩ | ⟨k2, zs, hk2, hzs, _, _⟩
          · -- a number stands there
            obtain ⟨x, J', r4, J4, e4, hx, hJ', hcase⟩ := last hJ2 (by omega)
            refine ⟨x, J', ?_, hx, hJ'.up (by omega)⟩
            rw [u_law_nw6_bent]
            rcases hcase with ⟨h4, o, ho, e5, rfl⟩ | ⟨h4, y, e5, hy5, rfl⟩
            · subst h4
              have p := put (nice_up (slim_nice (hx2 xs[o] (List.getElem_mem ho))) (show d ≤ d + 1 by omega))
              have at_o : ∀ s, fSub1 s (.d (.tuple xs)) (.d (.int (o : Int))) = some (.d xs[o]) := fun s => by
                rw [ix_t, at_nat, List.getElem?_eq_getElem ho]; rfl
              rw [hi] at at_a
              simp [startA, List.replicate, tyS, isiB, e1, hz, hne, e2, at_a, e4, e5, at_o, fsl_t, ct1, ct2, p.1, s1]
              have p2 := p.2.1
              simp at p2
              simp [p2]
            · have p := put hy5
              rw [hi] at e5 at_a
              simp [startA, List.replicate, tyS, isiB, e1, hz, hne, e2, at_a, e4, h4, e5, fsl_t, ct1, ct2, p.1, s1]
              have p2 := p.2.1
              simp at p2
              simp [p2]
          · by_cases h3 : r3 = 0
            · obtain ⟨x, J', r4, J4, e4, hx, hJ', hcase⟩ := last hJ3 (by omega)
              refine ⟨x, J', ?_, hx, hJ'.up (by omega)⟩
              rw [u_law_nw6_bent]
              subst h3
              rcases hcase with ⟨h4, o, ho, e5, rfl⟩ | ⟨h4, y, e5, hy5, rfl⟩
              · subst h4
                have p := put (nice_up (slim_nice (hx2 xs[o] (List.getElem_mem ho))) (show d ≤ d + 1 by omega))
                have at_o : ∀ s, fSub1 s (.d (.tuple xs)) (.d (.int (o : Int))) = some (.d xs[o]) := fun s => by
                  rw [ix_t, at_nat, List.getElem?_eq_getElem ho]; rfl
                rw [hzs] at at_a
                simp [startA, List.replicate, tyS, isiB, e1, hz, hne, e2, at_a, e3, e4, e5, at_o, fsl_t, ct1, ct2, p.1, s1]
                have p2 := p.2.1
                simp at p2
                simp [p2]
              · have p := put hy5
                rw [hzs] at e5 at_a
                simp [startA, List.replicate, tyS, isiB, e1, hz, hne, e2, at_a, e3, e4, h4, e5, fsl_t, ct1, ct2, p.1, s1]
                have p2 := p.2.1
                simp at p2
                simp [p2]
            · obtain ⟨y, J', e5, hy5, hJ'⟩ := ih (m := q + 1) (rest := rest) (by omega) hJ3 (by omega) hy
              have p := put hy5
              refine ⟨.tuple (xs.take a ++ [y] ++ xs.drop (a + 1)), J', ?_, p.2.2, hJ'.up (by omega)⟩
              rw [u_law_nw6_bent]
              have r3p : 0 < r3 := by omega
              rw [hzs] at e5 at_a
              simp [startA, List.replicate, tyS, isiB, e1, hz, hne, e2, at_a, e3, r3p, e5, fsl_t, ct1, ct2, p.1, s1]
              have p2 := p.2.1
              simp at p2
              simp [p2]
end NL
end
section
set_option Elab.async false
set_option linter.all false
set_option maxRecDepth 100000
set_option maxHeartbeats 1000000
/-! Plain: webs asked. -/
namespace NL
open PySem PySem.Spec PyProof.Rows L2

/-- what is heard of a thing that is told back, or refused -/
def heardW (f : Option (Str × PyData)) (t : PyData) : PyData := match f with
  | none => .tuple [.str "told", t]
  | some (c, x) => .tuple [.str c, x]
theorem noL_i (i : Int) : noL (.int i) = true := by unfold noL; rfl
theorem noL_p (i j : Int) : noL (.tuple [.int i, .int j]) = true := by simp [noL, noLs]
theorem web_some {t : PyData} {c : Str} {x : PyData} (h : webForm t = some (c, x)) : c ∈ exsK ∧ noL x = true ∧ Nice 1 x = true := by
  have m1 : ("BadWeb" : Str) ∈ exsK := by simp [exsK]
  have m2 : ("TooMany" : Str) ∈ exsK := by simp [exsK]
  unfold webForm at h
  split at h
  · split at h
    · split at h
      · split at h
        · split at h
          · cases h; exact ⟨m2, noL_i _, nice_i _ _⟩
          · obtain ⟨i, _, e⟩ := Option.map_eq_some_iff.mp h
            cases e
            exact ⟨m1, noL_p _ _, nice_t.mpr ⟨by simp, fun y hy => by
              simp only [List.mem_cons, List.not_mem_nil, or_false] at hy
              rcases hy with rfl | rfl <;> exact nice_i _ _⟩⟩
        · cases h; exact ⟨m1, noL_i _, nice_i _ _⟩
      · cases h; exact ⟨m1, noL_i _, nice_i _ _⟩
    · cases h; exact ⟨m1, noL_i _, nice_i _ _⟩
  · cases h; exact ⟨m1, noL_i _, nice_i _ _⟩
theorem slim_pair (p : Int × Int) (d : Nat) : Slim (d + 1) (pairD p) = true := slim_t.mpr ⟨by simp, fun y hy => by
  simp only [List.mem_cons, List.not_mem_nil, or_false] at hy
  rcases hy with rfl | rfl <;> exact slim_i _ _⟩
theorem web_none {t : PyData} (h : webForm t = none) : Slim 3 t = true := by
  unfold webForm at h
  split at h
  · split at h
    · split at h
      · split at h
        · split at h
          · cases h
          · rename_i k hk _ ds hl
            have e : linksBad k none 0 ds = none := by
              cases e : linksBad k none 0 ds with
              | none => rfl
              | some j => rw [e] at h; cases h
            refine slim_t.mpr ⟨by simp, fun y hy => ?_⟩
            simp only [List.mem_cons, List.not_mem_nil, or_false] at hy
            rcases hy with rfl | rfl
            · exact slim_i _ _
            · refine slim_t.mpr ⟨by omega, fun z hz => ?_⟩
              obtain ⟨p, rfl⟩ := links_tup ds none 0 e z hz
              exact slim_pair p 0
        · cases h
      · cases h
    · cases h
  · cases h
theorem hear_web {m : Nat} (h : 4 ≤ m) {X : FE} {a : Env} {st s : Store} {t : PyData} {d : Nat} (hX : X a st = .ok (.d t) s) (ht : Nice d t = true) : hrd (eCall (ofN 1 (D false "made_web" m)) (aCons X aNil)) a st = .ok (.d (heardW (webForm t) t)) s := by
  have hm := s_made_web h false s t (nice_nd3 ht)
  have e : eCall (ofN 1 (D false "made_web" m)) (aCons X aNil) a st = D false "made_web" m [.d t] s := by
    simp [hX]
  cases hw : webForm t with
  | none =>
    rw [hw] at hm
    exact hrd_ok (e.trans hm)
  | some p =>
    obtain ⟨c, x⟩ := p
    rw [hw] at hm
    obtain ⟨q1, q2, _⟩ := web_some hw
    exact hrd_exc (e.trans hm) q1 q2
theorem nice_heard {f : Option (Str × PyData)} {t : PyData} {d : Nat} (ht : Nice (d + 1) t = true) (hf : ∀ c x, f = some (c, x) → Nice 1 x = true) : Nice (d + 2) (heardW f t) = true := by
  cases f with
  | none => exact nice_t.mpr ⟨by simp, fun y hy => by
      simp only [List.mem_cons, List.not_mem_nil, or_false] at hy
      rcases hy with rfl | rfl
      · exact nice_s _ _
      · exact ht⟩
  | some p => 
    obtain ⟨c, x⟩ := p
    exact nice_t.mpr ⟨by simp, fun y hy => by
      simp only [List.mem_cons, List.not_mem_nil, or_false] at hy
      rcases hy with rfl | rfl
      · exact nice_s _ _
      · exact nice_up (hf c _ rfl) (by omega)⟩
theorem web_body {m : Nat} (h : 10 ≤ m) {g : Bool} {n : Nat} {J : Cell} {rest : Store} {t : PyData} {x1 x2 x3 : Option AV} (hJ : Jr n J) (hn : n + 10000 ≤ 2 ^ 250) (ht : Nice 4 t = true) :
    ∃ (t' : PyData) (J' : Cell) (x2' x3' : Option AV), b0_law_nw6_web_right g m [some (.r 0), some (.d t), x1, x2, x3] (J :: rest) = .ok (.nx [some (.r 0), some (.d t'), x1, x2', x3']) (J' :: rest) ∧ Nice 4 t' = true ∧ Jr (n + 10000) J' := by
  have hc := fun st => s_web_cause (m := m) (by omega) g st t (nice_nd3 ht)
  rw [xb0_law_nw6_web_right]
  have two : 2 ≤ sizeLine := two_size
  cases hw : webForm t with
  | none =>
    rw [hw] at hc
    obtain ⟨t', J', e, hN, hJ'⟩ := s_bent (g := g) (d := 3) (m := m) (rest := rest) (by omega) hJ (by omega) (web_none hw)
    refine ⟨t', J', some (.d .none), some (.d (.tuple [.str "told", t])), ?_, hN, hJ'.up (by omega)⟩
    have hh := hear_web (m := m) (by omega) (X := eVar 1) (a := [some (.r 0), some (.d t), x1, some (.d .none), some (.d (.tuple [.str "told", t]))]) (st := J :: rest) (s := J :: rest) (t := t) (by simp) ht
    rw [hw] at hh
    have hs := s_same (g := g) (st := J :: rest) (m := m) (nice_heard (f := none) ht (fun _ _ h => by cases h)) (by omega)
    simp only [heardW] at hh hs
    have hc : ∀ st, D g "_law_nk_web_cause" m [.d t] st = .ok (.d .none) st := fun st => hc st
    simp [hc, isB, two]
    rw [a_hrd] at hh
    simp at hh
    simp [hh, hs, isB, e]
  | some p =>
    obtain ⟨c, x⟩ := p
    rw [hw] at hc
    obtain ⟨q1, q2, q3⟩ := web_some hw
    obtain ⟨t', J', e, hN, hJ'⟩ := s_web (m := m) (by omega) g hJ rest (by omega) (most := 6) (by omega)
    refine ⟨t', J', some (.d (.tuple [.str c, x])), some (.d (.tuple [.str c, x])), ?_, nice_up hN (by omega), hJ'.up (by omega)⟩
    have hh := hear_web (m := m) (by omega) (X := eVar 1) (a := [some (.r 0), some (.d t), x1, some (.d (.tuple [.str c, x])), some (.d (.tuple [.str c, x]))]) (st := J :: rest) (s := J :: rest) (t := t) (by simp) ht
    rw [hw] at hh
    have hs := s_same (g := g) (st := J :: rest) (m := m) (nice_heard (f := some (c, x)) ht (fun _ _ h => by cases h; exact q3)) (by omega)
    simp only [heardW] at hh hs
    have hc : ∀ st, D g "_law_nk_web_cause" m [.d t] st = .ok (.d (.tuple [.str c, x])) st := fun st => hc st
    simp [hc, isB]
    rw [a_hrd] at hh
    simp at hh
    rw [show ((6 : Nat) : Int) = 6 from rfl] at e
    simp [hh, hs, isB, e]
theorem web_right_loop {m : Nat} (h : 10 ≤ m) {g : Bool} {rest : Store} : ∀ (k i n : Nat) (J : Cell) (t : PyData) (x1 x2 x3 : Option AV), Jr n J → n + 10000 * k ≤ 2 ^ 250 → Nice 4 t = true →
    ∃ (J' : Cell) (E : Env), forL (gNm 2) (b0_law_nw6_web_right g m) (rgF i k) [some (.r 0), some (.d t), x1, x2, x3] (J :: rest) = .ok (.nx E) (J' :: rest) ∧ Jr (n + 10000 * k) J'
  | 0, i, n, J, t, x1, x2, x3, hJ, _, _ => ⟨J, _, rfl, hJ⟩
  | k + 1, i, n, J, t, x1, x2, x3, hJ, hn, ht => by
    obtain ⟨t1, J1, y2, y3, e1, ht1, hJ1⟩ := web_body h (g := g) (rest := rest) (x1 := some (.d (.int (i : Int)))) (x2 := x2) (x3 := x3) hJ (by omega) ht
    obtain ⟨J2, E, e2, hJ2⟩ := web_right_loop h (g := g) (rest := rest) k (i + 1) (n + 10000) J1 t1 (some (.d (.int (i : Int)))) y2 y3 hJ1 (by omega) ht1
    refine ⟨J2, E, ?_, hJ2.up (by omega)⟩
    rw [rgF]
    unfold forL
    simp only [g_nm, List.set_cons_succ, List.set_cons_zero]
    rw [e1]
    exact e2
theorem s_web_right {m : Nat} (h : 12 ≤ m) (g : Bool) {n : Nat} {J : Cell} (hJ : Jr n J) (rest : Store) (hn : n + 100000 ≤ 2 ^ 250) : ∃ J', D g "_law_nw6_web_right" m [.r 0] (J :: rest) = .ok (.d (.bool true)) (J' :: rest) ∧ Jr (n + 100000) J' := by
  obtain ⟨q, rfl⟩ := up2 (m := m) (by omega)
  obtain ⟨x, J1, e1, hx, hJ1⟩ := s_one (m := q + 1) (by omega) g hJ (by omega) rest (xs := [.int 3, .int 6, .int 12, .int 60]) (by simp) (by simp)
  have hx' : ∃ k : Nat, x = .int (k : Int) ∧ k ≤ 60 := by
    simp only [List.mem_cons, List.not_mem_nil, or_false] at hx
    rcases hx with rfl | rfl | rfl | rfl
    · exact ⟨3, rfl, by omega⟩
    · exact ⟨6, rfl, by omega⟩
    · exact ⟨12, rfl, by omega⟩
    · exact ⟨60, rfl, by omega⟩
  obtain ⟨k, rfl, hk⟩ := hx'
  obtain ⟨t, J2, e2, ht, hJ2⟩ := s_web (m := q + 1) (by omega) g hJ1 rest (by omega) hk
  obtain ⟨J3, E, e3, hJ3⟩ := web_right_loop (m := q + 1) (by omega) (g := g) (rest := rest) 7 0 (n + 1 + 9000) J2 t none none none hJ2 (by omega) (nice_up ht (by omega))
  refine ⟨J3, ?_, hJ3.up (by omega)⟩
  have four : 4 ≤ sizeLine := by rw [size_lit]; omega
  rw [u_law_nw6_web_right]
  simp [startA, List.replicate, four, e1, e2]
  rw [for_xs _ _ _ (srg1_ok (s := J2 :: rest) (n := 7) ?h1 (by omega)), e3]
  case h1 => simp
  simp
end NL
end
section
set_option Elab.async false
set_option linter.all false
set_option maxRecDepth 100000
set_option maxHeartbeats 1000000
/-! Plain: nets and lots asked, refused ones. -/
namespace NL
open PySem PySem.Spec PyProof.Rows L2

theorem net_some {t : PyData} {c : Str} {x : PyData} (h : netForm t = some (c, x)) : c ∈ exsK ∧ ∃ i, x = .int i := by
  have m1 : ("BadNet" : Str) ∈ exsK := by simp [exsK]
  unfold netForm at h
  split at h
  · split at h
    · cases h; exact ⟨m1, _, rfl⟩
    · obtain ⟨i, _, e⟩ := Option.map_eq_some_iff.mp h
      cases e
      exact ⟨m1, _, rfl⟩
  · cases h; exact ⟨m1, _, rfl⟩
theorem call1 {F : DF} {X : FE} {a : Env} {st s : Store} {x : AV} (hX : X a st = .ok x s) : eCall (ofN 1 F) (aCons X aNil) a st = F [x] s := by
  simp [hX]
theorem call2 {F : DF} {X Y : FE} {a : Env} {st s s2 : Store} {x y : AV} (hX : X a st = .ok x s) (hY : Y a s = .ok y s2) : eCall (ofN 2 F) (aCons X (aCons Y aNil)) a st = F [x, y] s2 := by
  simp [hX, hY]
theorem hear_net {m : Nat} (h : 5 ≤ m) {X : FE} {a : Env} {st s : Store} {t : PyData} {d : Nat} (hX : X a st = .ok (.d t) s) (ht : Nice d t = true) : hrd (eCall (ofN 1 (D false "made_net" m)) (aCons X aNil)) a st = .ok (.d (heardW (netForm t) t)) s := by
  have hm := s_made_net h false s t (nice_nd3 ht)
  cases hw : netForm t with
  | none =>
    rw [hw] at hm
    exact hrd_ok ((call1 hX).trans hm)
  | some p =>
    obtain ⟨c, x⟩ := p
    rw [hw] at hm
    obtain ⟨q1, i, rfl⟩ := net_some hw
    exact hrd_exc ((call1 hX).trans hm) q1 (noL_i _)
/-- both functions refuse what is no net, no lot -/
theorem both_net {m : Nat} (h : 6 ≤ m) (g : Bool) (st : Store) {t z : PyData} (ht : nd3 t) {c : Str} {x : PyData} (hw : netForm t = some (c, x)) : D g "ancestors_of" m [.d t, .d z] st = .exc c x st ∧ D g "moral_web" m [.d t, .d z] st = .exc c x st := by
  obtain ⟨k, rfl⟩ := up2 (m := m) (by omega)
  have := s_made_net (m := k + 1) (by omega) g st t ht
  rw [hw] at this
  constructor
  · rw [u_ancestors_of]
    simp [startA, this]
  · rw [u_moral_web]
    simp [startA, this]
theorem both_lot {m : Nat} (h : 6 ≤ m) (g : Bool) (st : Store) {N : List (List Int)} {z : PyData} (hN : Net N) (hz : nd3 z) {i : Int} (hw : lotForm N.length z = some i) : D g "ancestors_of" m [.d (netD N), .d z] st = .exc "BadLot" (.int i) st ∧ D g "moral_web" m [.d (netD N), .d z] st = .exc "BadLot" (.int i) st := by
  obtain ⟨k, rfl⟩ := up2 (m := m) (by omega)
  have e1 := s_made_net (m := k + 1) (by omega) g st (netD N) (nd3_net N)
  rw [netForm_none.mpr ⟨N, rfl, hN⟩] at e1
  have e2 := s_asked_lot (m := k + 1) (by omega) g st (N.length : Int) z hz.1 (fun ds e d hd => (hz.2 ds (.inl e) d hd).1)
  rw [hw] at e2
  have hn : gLen st [.d (netD N)] = some (.d (.int N.length)) := by simp [netD]
  constructor
  · rw [u_ancestors_of]
    simp [startA, e1, e2, hn]
  · rw [u_moral_web]
    simp [startA, e1, e2, hn, List.replicate]
theorem heard_moral {m : Nat} (h : 6 ≤ m) {X Y : FE} {a : Env} {st s s2 : Store} {N : List (List Int)} {lot : List Int} (hX : X a st = .ok (.d (netD N)) s) (hY : Y a s = .ok (.d (lotD lot)) s2) (hN : Net N) (hL : UpF N.length (-1) lot) : hrd (eCall (ofN 2 (D false "moral_web" m)) (aCons X (aCons Y aNil))) a st = .ok (.d (moralD N lot)) s2 := by
  have hm := s_moral_ok h false s2 hN hL
  unfold moralD
  by_cases hl : 400 < (morF N lot).length
  · rw [if_pos hl] at hm
    rw [if_neg (by omega)]
    exact hrd_exc ((call2 hX hY).trans hm) (by simp [exsK]) (noL_i _)
  · rw [if_neg hl] at hm
    rw [if_pos (by omega)]
    exact hrd_ok ((call2 hX hY).trans hm)
theorem heard_anc {m : Nat} (h : 6 ≤ m) {X Y : FE} {a : Env} {st s s2 : Store} {N : List (List Int)} {lot : List Int} (hX : X a st = .ok (.d (netD N)) s) (hY : Y a s = .ok (.d (lotD lot)) s2) (hN : Net N) (hL : UpF N.length (-1) lot) : hrd (eCall (ofN 2 (D false "ancestors_of" m)) (aCons X (aCons Y aNil))) a st = .ok (.d (.tuple [.str "told", lotD (ancF N lot)])) s2 :=
  hrd_ok ((call2 hX hY).trans (s_ancestors_ok h false s2 hN hL))
/-! how deep, how long -/
theorem slim_lot {l : List Int} (h : l.length ≤ 1000) (d : Nat) : Slim (d + 1) (lotD l) = true := slim_t.mpr ⟨by simpa using h, fun y hy => by
  obtain ⟨i, _, rfl⟩ := List.mem_map.mp hy
  exact slim_i _ _⟩
theorem slim_net {N : List (List Int)} (hN : Net N) : Slim 2 (netD N) = true := slim_t.mpr ⟨by have := hN.len; simp; omega, fun y hy => by
  obtain ⟨l, hl, rfl⟩ := List.mem_map.mp hy
  exact slim_lot (by have := hN.w l hl; omega) 0⟩
theorem nice_lot {l : List Int} (h : l.length ≤ 1000) (d : Nat) : Nice (d + 1) (lotD l) = true := slim_nice (slim_lot h d)
theorem nice_pair (p : Int × Int) (d : Nat) : Nice (d + 1) (pairD p) = true := slim_nice (slim_pair p d)
theorem nice_links {L : List (Int × Int)} (h : L.length ≤ 2000) (d : Nat) : Nice (d + 2) (linksD L) = true := nice_t.mpr ⟨by simpa using h, fun y hy => by
  obtain ⟨p, _, rfl⟩ := List.mem_map.mp hy
  exact nice_pair p d⟩
theorem nice_two {d : Nat} {x y : PyData} (hx : Nice d x = true) (hy : Nice d y = true) : Nice (d + 1) (.tuple [x, y]) = true := nice_t.mpr ⟨by simp, fun z hz => by
  simp only [List.mem_cons, List.not_mem_nil, or_false] at hz
  rcases hz with rfl | rfl
  · exact hx
  · exact hy⟩
theorem nice_moral (N : List (List Int)) (lot : List Int) : Nice 4 (moralD N lot) = true := by
  unfold moralD
  split
  · exact nice_two (nice_s _ _) (nice_two (nice_i _ _) (nice_links (by omega) 0))
  · exact nice_two (nice_s _ _) (nice_i _ _)
theorem nice_told {d : Nat} {x : PyData} (hx : Nice d x = true) : Nice (d + 1) (.tuple [.str "told", x]) = true := nice_two (nice_s _ _) hx
theorem mul_2 (st : Store) (w : PyData) : fMul st (.d (.list [w])) (.d (.int 2)) = some (.d (.list [w, w])) := by
  have h : 1 * 2 ≤ sizeLine := by rw [size_lit]; omega
  simp only [fMul, oneOf, mulI, onI, repL, ls, vw]
  simp [size_lit]
/-- the written answers, told alike -/
theorem same_two {m : Nat} (h : 12 ≤ m) {g : Bool} {J : Cell} {rest : Store} {x y : PyData} (hx : Nice 5 x = true) (hy : Nice 5 y = true) : D g "_law_ns_same" m [.r (rest.length + 1), .d (.list [x, y])] (J :: (rest ++ [.l [x, y]])) = .ok (.d (.bool true)) (J :: (rest ++ [.l [x, y]])) :=
  s_same_r (d := 5) (h1 J rest (.l [x, y])) (nice_l.mpr ⟨by simp, fun z hz => by
    simp only [List.mem_cons, List.not_mem_nil, or_false] at hz
    rcases hz with rfl | rfl
    · exact hx
    · exact hy⟩) (by omega)
/-- the middle: a net and a lot, perhaps bent -/
theorem bent_two {m : Nat} (h : 12 ≤ m) {g : Bool} {n : Nat} {J : Cell} {rest : Store} {N : List (List Int)} (hJ : Jr n J) (hn : n + 1000 ≤ 2 ^ 250) (hN : Net N) (x2 x3 x4 x5 x6 : Option AV) :
    ∃ (one two lot : PyData) (form : Nat) (J' : Cell), Jr (n + 1000) J' ∧ Nice 3 one = true ∧ Nice 2 two = true ∧ ∀ (rest4 : FS),
      (sSeq (sPar [7, 8] (aCons (eCall (ofN 3 (D g "_law_nk_lot" m)) (aCons (eVar 0) (aCons (eCB gLen (aCons (eVar 1) aNil)) (aCons (eC (.int 3)) aNil)))) (aCons (eCall (ofN 2 (D g "_law_take" m)) (aCons (eVar 0) (aCons (eC (.int 3)) aNil))) aNil)))
    (sSeq (sAsg (gNm 2) (eIf (tOf (eOp fLt (eVar 8) (eC (.int 2)))) (eCall (ofN 2 (D g "_law_nw6_bent" m)) (aCons (eVar 0) (aCons (eVar 1) aNil))) (eVar 1)))
    (sSeq (sAsg (gNm 3) (eIf (tOf (eOp fGt (eVar 8) (eC (.int 0)))) (eCall (ofN 2 (D g "_law_nw6_bent" m)) (aCons (eVar 0) (aCons (eIf (tOf (eOp fEq (eCall (ofN 2 (D g "_law_take" m)) (aCons (eVar 0) (aCons (eC (.int 3)) aNil))) (eC (.int 0)))) (eOp fAdd (eVar 7) (eTup (aCons (eCB gLen (aCons (eVar 1) aNil)) aNil))) (eVar 7)) aNil))) (eVar 7))) rest4))) [some (.r 0), some (.d (netD N)), x2, x3, x4, x5, x6, none, none] (J :: rest)
      = rest4 [some (.r 0), some (.d (netD N)), some (.d one), some (.d two), x4, x5, x6, some (.d lot), some (.d (.int (form : Int)))] (J' :: rest) := by
  have hlen := hN.len
  obtain ⟨ls, J1, e1, hu, hJ1⟩ := s_lot (m := m) (by omega) g hJ rest (many := N.length) (part := 3) (by omega) (by omega) (by omega) (by omega)
  obtain ⟨form, J2, e2, hf, hJ2⟩ := s_take (m := m) (by omega) g hJ1 (by omega) rest (k := 3) (by omega) (by omega)
  rw [show ((3 : Nat) : Int) = 3 from rfl] at e1 e2
  have hll := hu.len'
  have hn1 : ∀ st, gLen st [.d (netD N)] = some (.d (.int N.length)) := fun st => by simp [netD]
  -- the net
  have one : ∃ (o : PyData) (J3 : Cell), eIf (tOf (eOp fLt (eVar 8) (eC (.int 2)))) (eCall (ofN 2 (D g "_law_nw6_bent" m)) (aCons (eVar 0) (aCons (eVar 1) aNil))) (eVar 1) [some (.r 0), some (.d (netD N)), x2, x3, x4, x5, x6, some (.d (lotD ls)), some (.d (.int (form : Int)))] (J2 :: rest) = .ok (.d o) (J3 :: rest) ∧ Nice 3 o = true ∧ Jr (n + 100) J3 := by
    by_cases q : (form : Int) < 2
    · obtain ⟨o, J3, e3, ho, hJ3⟩ := s_bent (g := g) (d := 2) (m := m) (rest := rest) (by omega) hJ2 (by omega) (slim_net hN)
      exact ⟨o, J3, by simp [q, e3], ho, hJ3.up (by omega)⟩
    · exact ⟨netD N, J2, by simp [q], nice_up (slim_nice (slim_net hN)) (by omega), hJ2.up (by omega)⟩
  obtain ⟨o, J3, e3, ho, hJ3⟩ := one
  have two : ∃ (t : PyData) (J4 : Cell), eIf (tOf (eOp fGt (eVar 8) (eC (.int 0)))) (eCall (ofN 2 (D g "_law_nw6_bent" m)) (aCons (eVar 0) (aCons (eIf (tOf (eOp fEq (eCall (ofN 2 (D g "_law_take" m)) (aCons (eVar 0) (aCons (eC (.int 3)) aNil))) (eC (.int 0)))) (eOp fAdd (eVar 7) (eTup (aCons (eCB gLen (aCons (eVar 1) aNil)) aNil))) (eVar 7)) aNil))) (eVar 7) [some (.r 0), some (.d (netD N)), some (.d o), x3, x4, x5, x6, some (.d (lotD ls)), some (.d (.int (form : Int)))] (J3 :: rest) = .ok (.d t) (J4 :: rest) ∧ Nice 2 t = true ∧ Jr (n + 1000) J4 := by
    by_cases q : 0 < form
    · obtain ⟨r, J4, e4, hr, hJ4⟩ := s_take (m := m) (by omega) g hJ3 (by omega) rest (k := 3) (by omega) (by omega)
      rw [show ((3 : Nat) : Int) = 3 from rfl] at e4
      have one1 : 1 ≤ sizeLine := by rw [size_lit]; omega
      by_cases q2 : r = 0
      · have ea : ∀ s, fAdd s (.d (lotD ls)) (.d (.tuple [.int (N.length : Int)])) = some (.d (lotD (ls ++ [(N.length : Int)]))) := fun s => by
          unfold lotD
          rw [add_t _ _ _ (by simp; omega)]
          simp
        obtain ⟨t, J5, e5, ht, hJ5⟩ := s_bent (g := g) (d := 1) (m := m) (rest := rest) (by omega) hJ4 (by omega) (slim_lot (l := ls ++ [(N.length : Int)]) (by simp; omega) 0)
        subst q2
        exact ⟨t, J5, by simp [q, e4, hn1, one1, ea, e5], ht, hJ5.up (by omega)⟩
      · obtain ⟨t, J5, e5, ht, hJ5⟩ := s_bent (g := g) (d := 1) (m := m) (rest := rest) (by omega) hJ4 (by omega) (slim_lot (l := ls) (by omega) 0)
        exact ⟨t, J5, by simp [q, e4, q2, e5], ht, hJ5.up (by omega)⟩
    · exact ⟨lotD ls, J3, by simp [q], nice_lot (by omega) 1, hJ3.up (by omega)⟩
  obtain ⟨t, J4, e4, ht, hJ4⟩ := two
  refine ⟨o, t, lotD ls, form, J4, hJ4, ho, ht, fun rest4 => ?_⟩
  rw [s_seq, s_par]
  simp only [a_cons, a_call, a_ofn, a_var, List.getElem?_cons_zero, List.getElem?_cons_succ, Out.bind_ok, a_cb, hn1, lift_some, a_c, a_nil, List.length_cons, List.length_nil]
  simp only [if_true, e1, e2, Out.bind_ok, set_cons, set_nil, List.set_cons_succ, List.set_cons_zero]
  rw [s_seq, s_asg, e3]
  simp only [Out.bind_ok, g_nm, List.set_cons_succ, List.set_cons_zero]
  rw [s_seq, s_asg, e4]
  simp only [Out.bind_ok, g_nm, List.set_cons_succ, List.set_cons_zero]
end NL
end
section
set_option Elab.async false
set_option linter.all false
set_option maxRecDepth 100000
set_option maxHeartbeats 1000000
/-! Plain: refused ones. -/
namespace NL
open PySem PySem.Spec PyProof.Rows L2

theorem s_refused {m : Nat} (h : 16 ≤ m) (g : Bool) {n : Nat} {J : Cell} {rest : Store} {N : List (List Int)} (hJ : Jr n J) (hn : n + 1000 ≤ 2 ^ 250) (hN : Net N) : ∃ J', D g "_law_nw6_refused_right" m [.r 0, .d (netD N)] (J :: rest) = .ok (.d (.bool true)) (J' :: rest) ∧ Jr (n + 1000) J' := by
  obtain ⟨q, rfl⟩ := up2 (m := m) (by omega)
  obtain ⟨one, two, lot, form, J', hJ', ho, ht, hb⟩ := bent_two (m := q + 1) (by omega) (g := g) (rest := rest) hJ hn hN none none none none none
  refine ⟨J', ?_, hJ'⟩
  rw [u_law_nw6_refused_right, run_e]
  rw [show startA ["jar", "net", "one", "two", "wrong", "due", "answers", "lot", "form"] [.r 0, .d (netD N)] = [some (.r 0), some (.d (netD N)), none, none, none, none, none, none, none] from rfl, hb]
  have s1 : 1 ≤ sizeLine := by rw [size_lit]; omega
  have s2 := two_size
  have wide : ∀ ds, one = .tuple ds → ∀ es, .tuple es ∈ ds → es.length ≤ 16777216 := fun ds e es he => by
    obtain ⟨k, _, _, h1⟩ := nice_mem ho (.inl e)
    obtain ⟨k2, _, h2, _⟩ := nice_mem (h1 _ he) (.inl rfl)
    omega
  have hc := fun st => s_net_cause (m := q + 1) (by omega) g st one (nice_nd3 ho) wide
  cases hw : netForm one with
  | some p =>
    obtain ⟨c, x⟩ := p
    obtain ⟨q1, i, rfl⟩ := net_some hw
    rw [hw] at hc
    have hc : ∀ st, D g "_law_nk_net_cause" (q + 1) [.d one] st = .ok (.d (.tuple [.str c, .int i])) st := fun st => hc st
    have hN3 : Nice 5 (.tuple [.str c, .int i]) = true := nice_two (nice_s _ _) (nice_i _ _)
    have hh := fun (st : Store) => hear_net (m := q + 1) (by omega) (X := eVar 2) (a := [some (.r 0), some (.d (netD N)), some (.d one), some (.d two), some (.d (.tuple [.str c, .int i])), some (.d .none), none, some (.d lot), some (.d (.int (form : Int)))]) (st := st) (s := st) (by simp) ho
    rw [hw] at hh
    simp only [heardW, a_hrd] at hh
    simp at hh
    have hs := fun st => s_same (g := g) (st := st) (m := q + 1) hN3 (by omega)
    obtain ⟨b1, b2⟩ := both_net (m := q + 1) (by omega) false (J' :: rest) (z := two) (nice_nd3 ho) hw
    have b2' := fun st => (both_net (m := q + 1) (by omega) false st (z := two) (nice_nd3 ho) hw).2
    have ex : ∀ s, heardF "told" exsK pairH (.exc c (.int i) s) = .ok (.d (.tuple [.str c, .int i])) s := fun s => by
      show (if c ∈ exsK ∧ noL (.int i) = true then Out.ok (AV.d (pairH c (.int i))) s else Out.stuck) = _
      rw [if_pos ⟨q1, noL_i _⟩]
      rfl
    have ap := app_at (J' :: (rest ++ [.l [.tuple [.str c, .int i]]])) (y := .tuple [.str c, .int i]) (h1 J' rest (.l [.tuple [.str c, .int i]])) (by simp)
    rw [u1] at ap
    have ty := ty_r (h1 J' rest (.l [.tuple [.str c, .int i]]))
    have fin := same_two (m := q + 1) (by omega) (g := g) (J := J') (rest := rest) hN3 hN3
    simp [hc, isB, hh, hs, b1, b2', ex, s1, ty, ap, mul_2, fin]
  | none =>
    obtain ⟨M, rfl, hM⟩ := netForm_none.mp hw
    rw [hw] at hc
    have hc : ∀ st, D g "_law_nk_net_cause" (q + 1) [.d (netD M)] st = .ok (.d .none) st := fun st => hc st
    have hn1 : ∀ st, gLen st [.d (netD M)] = some (.d (.int M.length)) := fun st => by simp [netD]
    have ho2 : Nice 2 (netD M) = true := slim_nice (slim_net hM)
    have hh := fun (st : Store) => hear_net (m := q + 1) (by omega) (X := eVar 2) (a := [some (.r 0), some (.d (netD N)), some (.d (netD M)), some (.d two), some (.d .none), some (.d .none), none, some (.d lot), some (.d (.int (form : Int)))]) (st := st) (s := st) (by simp) ho2
    rw [hw] at hh
    simp only [heardW, a_hrd] at hh
    simp at hh
    have hs := fun st => s_same (g := g) (st := st) (m := q + 1) (nice_told ho2) (by omega)
    have hlc := fun st => s_lot_cause (m := q + 1) (by omega) g st (M.length : Int) two (nice_nd ht) (fun ds e => by
      obtain ⟨k, _, h2, h1⟩ := nice_mem ht (.inl e)
      exact ⟨fun d hd => nice_nd (h1 d hd), by omega⟩)
    cases hw2 : lotForm M.length two with
    | some i =>
      rw [hw2] at hlc
      have hlc : ∀ st, D g "_law_nk_lot_cause" (q + 1) [.d (.int (M.length : Int)), .d two] st = .ok (.d (.tuple [.str "BadLot", .int i])) st := fun st => hlc st
      have hN3 : Nice 5 (.tuple [.str "BadLot", .int i]) = true := nice_two (nice_s _ _) (nice_i _ _)
      have b := fun st => both_lot (m := q + 1) (by omega) false st hM (nice_nd3 ht) hw2
      have ex : ∀ s, heardF "told" exsK pairH (.exc "BadLot" (.int i) s) = .ok (.d (.tuple [.str "BadLot", .int i])) s := fun s => by
        show (if ("BadLot" : Str) ∈ exsK ∧ noL (.int i) = true then Out.ok (AV.d (pairH "BadLot" (.int i))) s else Out.stuck) = _
        rw [if_pos ⟨by simp [exsK], noL_i _⟩]
        rfl
      have ap := app_at (J' :: (rest ++ [.l [.tuple [.str "BadLot", .int i]]])) (y := .tuple [.str "BadLot", .int i]) (h1 J' rest (.l [.tuple [.str "BadLot", .int i]])) (by simp)
      rw [u1] at ap
      have ty := ty_r (h1 J' rest (.l [.tuple [.str "BadLot", .int i]]))
      have fin := same_two (m := q + 1) (by omega) (g := g) (J := J') (rest := rest) hN3 hN3
      simp [hc, isB, s2, hh, hs, hn1, hlc, (b _).1, (b _).2, ex, s1, ty, ap, mul_2, fin]
    | none =>
      obtain ⟨l, rfl, hl⟩ := lotForm_none.mp hw2
      rw [hw2] at hlc
      have hlc : ∀ st, D g "_law_nk_lot_cause" (q + 1) [.d (.int (M.length : Int)), .d (lotD l)] st = .ok (.d .none) st := fun st => hlc st
      have hlen := hM.len
      have hll := hl.len'
      have hup := anc_len hM (up_in rfl hl)
      have nA : Nice 5 (.tuple [.str "told", lotD (ancF M l)]) = true := nice_told (nice_lot (by omega) 3)
      have nM : Nice 5 (moralD M l) = true := nice_up (nice_moral M l) (by omega)
      have e1 := fun (st : Store) => heard_anc (m := q + 1) (by omega) (X := eVar 2) (Y := eVar 3) (a := [some (.r 0), some (.d (netD N)), some (.d (netD M)), some (.d (lotD l)), some (.d .none), some (.d .none), none, some (.d lot), some (.d (.int (form : Int)))]) (st := st) (s := st) (s2 := st) (by simp) (by simp) hM hl
      have e2 := fun (st : Store) => heard_moral (m := q + 1) (by omega) (X := eVar 2) (Y := eVar 3) (a := [some (.r 0), some (.d (netD N)), some (.d (netD M)), some (.d (lotD l)), some (.d .none), some (.d .none), some (.d .none), some (.d lot), some (.d (.int (form : Int)))]) (st := st) (s := st) (s2 := st) (by simp) (by simp) hM hl
      simp only [a_hrd] at e1 e2
      simp at e1 e2
      have a1 := fun st => s_law_ancestors (m := q + 1) (lot := l) (by omega) g st (by omega) hM.w (by omega)
      have a2 := fun st => s_law_moral (m := q + 1) (by omega) g st hM hl
      have ap := app_at (J' :: (rest ++ [.l [.tuple [.str "told", lotD (ancF M l)]]])) (y := moralD M l) (h1 J' rest (.l [.tuple [.str "told", lotD (ancF M l)]])) (by simp)
      rw [u1] at ap
      have ty := ty_r (h1 J' rest (.l [.tuple [.str "told", lotD (ancF M l)]]))
      have fin := same_two (m := q + 1) (by omega) (g := g) (J := J') (rest := rest) nA nM
      simp [hc, isB, s2, hh, hs, hn1, hlc, e1, e2, a1, a2, s1, ty, ap, fin]
end NL
end
section
set_option Elab.async false
set_option linter.all false
set_option maxRecDepth 100000
set_option maxHeartbeats 1000000
/-! Plain: moral webs right. -/
namespace NL
open PySem PySem.Spec PyProof.Rows L2

theorem links_ok {n : Int} : ∀ (L : List (Int × Int)) (prev : Option (Int × Int)) (i : Nat), L.Pairwise (fun p q => ltP p q = true) → (∀ p ∈ L, 0 ≤ p.1 ∧ p.1 < p.2 ∧ p.2 ≤ n - 1) → (∀ p, prev = some p → ∀ q ∈ L, ltP p q = true) → linksBad n prev i (L.map pairD) = none
  | [], _, _, _, _, _ => rfl
  | q :: L, prev, i, h, hr, hp => by
    rw [List.pairwise_cons] at h
    have hq := hr q (List.mem_cons_self ..)
    have e : linkP n (pairD q) = some q := by
      obtain ⟨a, b⟩ := q
      simp only at hq
      show (if 0 ≤ a ∧ a ≤ n - 1 ∧ a + 1 ≤ b ∧ b ≤ n - 1 then some (a, b) else none) = _
      rw [if_pos ⟨by omega, by omega, by omega, by omega⟩]
    have ih := links_ok L (some q) (i + 1) h.2 (fun p hp => hr p (List.mem_cons_of_mem _ hp)) (fun p e q hq => by cases e; exact h.1 q hq)
    rw [List.map_cons]
    unfold linksBad
    rw [e]
    simp only
    cases prev with
    | none => exact ih
    | some p =>
      simp only
      rw [if_pos (hp p rfl q (List.mem_cons_self ..))]
      exact ih
theorem webForm_ok {n : Nat} {L : List (Int × Int)} (hn : n ≤ 60) (hl : L.length ≤ 400) (h : L.Pairwise (fun p q => ltP p q = true)) (hr : ∀ p ∈ L, 0 ≤ p.1 ∧ p.1 < p.2 ∧ p.2 ≤ (n : Int) - 1) : webForm (webD n L) = none := by
  have e := links_ok (n := (n : Int)) L none 0 h hr (fun p e => by cases e)
  have h1 : (0 : Int) ≤ n ∧ (n : Int) ≤ 60 := ⟨by omega, by omega⟩
  have h2 : ¬ 400 < (L.map pairD).length := by simpa using hl
  unfold webD linksD webForm
  simp only
  rw [if_pos h1, if_neg h2, e]
  rfl
theorem mor_rng {N : List (List Int)} (hN : Net N) {lot : List Int} (hL : ∀ x ∈ lot, InN N x) : ∀ p ∈ morF N lot, 0 ≤ p.1 ∧ p.1 < p.2 ∧ p.2 ≤ (N.length : Int) - 1 := fun p hp => by
  obtain ⟨h1, v, hv, h2, h3⟩ := (mem_mor hN hL).mp hp
  have hi := cl_in hN hL hv
  have a := (fam_ok hN hi).2.1 _ h2
  have b := (fam_ok hN hi).2.1 _ h3
  have := hi.2
  exact ⟨a.1, h1, by omega⟩
theorem mor_sub {N : List (List Int)} (hN : Net N) {a b : List Int} (ha : ∀ x ∈ a, InN N x) (hb : ∀ x ∈ b, InN N x) {p : Int × Int} (h : p ∈ morF N a) : p ∈ morF N (joinF a b) := by
  obtain ⟨h1, v, hv, h2⟩ := (mem_mor hN ha).mp h
  exact (mem_mor hN (join_in ha hb)).mpr ⟨h1, v, cl_mono (fun y hy => .base (mem_join.mpr (.inl hy))) hv, h2⟩
theorem mor_anc {N : List (List Int)} (hN : Net N) {lot : List Int} (hL : ∀ x ∈ lot, InN N x) : morF N (ancF N lot) = morF N lot := by
  unfold morF
  rw [anc_anc hN hL]
/-- one place more, behind all -/
theorem net_more {N : List (List Int)} (hN : Net N) (h : N.length < 40) : Net (N ++ [rI 0 N.length]) := by
  refine ⟨by simp; omega, fun v hv => ?_⟩
  rw [List.length_append, List.length_singleton] at hv
  by_cases q : v < N.length
  · have e : atN (N ++ [rI 0 N.length]) v = atN N v := by
      unfold atN
      rw [List.getElem?_append_left q]
    rw [e]
    exact hN.up v q
  · obtain rfl : v = N.length := by omega
    have e : atN (N ++ [rI 0 N.length]) N.length = rI 0 N.length := by
      unfold atN
      simp
    rw [e]
    exact sub_up (List.Sublist.refl _) (by omega)
theorem at_more {N : List (List Int)} {l : List Int} {v : Int} (h : InN N v) : atN (N ++ [l]) v.toNat = atN N v.toNat := by
  unfold atN
  rw [List.getElem?_append_left (by have := h.1; have := h.2; omega)]
theorem in_more {N : List (List Int)} {l : List Int} {v : Int} (h : InN N v) : InN (N ++ [l]) v := ⟨h.1, by have := h.2; simp; omega⟩
theorem cl_more {N : List (List Int)} (hN : Net N) {l lot : List Int} (hL : ∀ x ∈ lot, InN N x) {x : Int} : Cl (N ++ [l]) lot x ↔ Cl N lot x := by
  constructor
  · intro h
    induction h with
    | base h => exact .base h
    | step _ hx ih => exact .step ih (by rw [at_more (cl_in hN hL ih)] at hx; exact hx)
  · intro h
    induction h with
    | base h => exact .base h
    | step hv hx ih => exact .step ih (by rw [at_more (cl_in hN hL hv)]; exact hx)
theorem mor_more {N : List (List Int)} (hN : Net N) (h : N.length < 40) {lot : List Int} (hL : ∀ x ∈ lot, InN N x) : morF (N ++ [rI 0 N.length]) lot = morF N lot := by
  refine sortedP_ext (mor_lt _ _) (mor_lt _ _) fun p => ?_
  rw [mem_mor (net_more hN h) (fun x hx => in_more (hL x hx)), mem_mor hN hL]
  constructor
  · rintro ⟨h1, v, hv, h2⟩
    have hv := (cl_more hN hL).mp hv
    unfold famOf at h2
    rw [at_more (cl_in hN hL hv)] at h2
    exact ⟨h1, v, hv, h2⟩
  · rintro ⟨h1, v, hv, h2⟩
    refine ⟨h1, v, (cl_more hN hL).mpr hv, ?_⟩
    unfold famOf
    rw [at_more (cl_in hN hL hv)]
    exact h2
/-! ways of asking -/
theorem eqv_pair (p q : Int × Int) : PyData.eqv (pairD p) (pairD q) = decide (p = q) := by
  obtain ⟨a, b⟩ := p
  obtain ⟨c, d⟩ := q
  simp [pairD, PyData.eqv, PyData.eqvAll]
  by_cases h1 : a = c <;> by_cases h2 : b = d <;> simp [h1, h2]
theorem dep_all_pairs : ∀ L : List (Int × Int), PyData.depthAll (L.map pairD) ≤ 1
  | [] => by simp [PyData.depthAll]
  | p :: L => by
    rw [List.map_cons, PyData.depthAll, dep_pair]
    have := dep_all_pairs L
    omega
theorem notin_links (st : Store) (p : Int × Int) (L : List (Int × Int)) : fNotIn st (.d (pairD p)) (.d (linksD L)) = some (.d (.bool (!decide (p ∈ L)))) := by
  have h1 := dep_all_pairs L
  have e : (L.map pairD).any (fun y => PyData.eqv y (pairD p)) = decide (p ∈ L) := by
    rw [Bool.eq_iff_iff]
    simp only [List.any_map, List.any_eq_true, Function.comp, eqv_pair, decide_eq_true_eq]
    exact ⟨fun ⟨x, hx, e⟩ => e ▸ hx, fun h => ⟨p, h, rfl⟩⟩
  have e2 : inD true (pairD p) (linksD L) = some (!decide (p ∈ L)) := by
    unfold inD linksD seqD
    simp only
    rw [if_pos (by have := dep_pair p; omega), e]
    rfl
  simp only [fNotIn, oneOf, onD, vw, e2, Option.map_some]
theorem feq_strs (st : Store) (a b : Str) : fEq st (.d (.str a)) (.d (.str b)) = some (.d (.bool (decide (a = b)))) := by
  have : PyData.eqv (.str a) (.str b) = decide (a = b) := by
    unfold PyData.eqv
    by_cases h : a = b <;> simp [h]
  simp [fEq, onD, this, PyData.depth]
theorem fne_strs (st : Store) (a b : Str) : fNe st (.d (.str a)) (.d (.str b)) = some (.d (.bool (!decide (a = b)))) := by
  have : PyData.eqv (.str a) (.str b) = decide (a = b) := by
    unfold PyData.eqv
    by_cases h : a = b <;> simp [h]
  simp [fNe, onD, this, PyData.depth]
theorem same_rows {m d : Nat} (h : d + 4 ≤ m) {g : Bool} {J : Store} {xs : List PyData} (hx : ∀ x ∈ xs, Nice d x = true) (hl : xs.length ≤ 2000) : D g "_law_ns_same" m [.r J.length, .d (.list xs)] (J ++ [.l xs]) = .ok (.d (.bool true)) (J ++ [.l xs]) :=
  s_same_r (d := d) (by simp) (nice_l.mpr ⟨hl, hx⟩) h
theorem tw : (("told" : Str) = "TooMany") = False := by
  simp only [eq_iff_iff, iff_false]
  decide
theorem tw2 : (("TooMany" : Str) = "told") = False := by
  simp only [eq_iff_iff, iff_false]
  decide
end NL
end
section
set_option Elab.async false
set_option linter.all false
set_option maxRecDepth 100000
set_option maxHeartbeats 2000000
/-! Plain: moral webs asked. -/
namespace NL
open PySem PySem.Spec PyProof.Rows L2

theorem hd_moral {m : Nat} (h : 6 ≤ m) (st : Store) {N : List (List Int)} {lot : List Int} (hN : Net N) (hL : UpF N.length (-1) lot) : heardF "told" exsK pairH (D false "moral_web" m [.d (netD N), .d (lotD lot)] st) = .ok (.d (moralD N lot)) st := by
  have := heard_moral h (X := eC (netD N)) (Y := eC (lotD lot)) (a := []) (st := st) (s := st) (s2 := st) rfl rfl hN hL
  rw [a_hrd] at this
  simpa using this
theorem hd_anc {m : Nat} (h : 6 ≤ m) (st : Store) {N : List (List Int)} {lot : List Int} (hN : Net N) (hL : UpF N.length (-1) lot) : heardF "told" exsK pairH (D false "ancestors_of" m [.d (netD N), .d (lotD lot)] st) = .ok (.d (.tuple [.str "told", lotD (ancF N lot)])) st := by
  have := heard_anc h (X := eC (netD N)) (Y := eC (lotD lot)) (a := []) (st := st) (s := st) (s2 := st) rfl rfl hN hL
  rw [a_hrd] at this
  simpa using this
theorem hd_web {m : Nat} (h : 4 ≤ m) (st : Store) {t : PyData} {d : Nat} (ht : Nice d t = true) : heardF "told" exsK pairH (D false "made_web" m [.d t] st) = .ok (.d (heardW (webForm t) t)) st := by
  have := hear_web h (X := eC t) (a := []) (st := st) (s := st) rfl ht
  rw [a_hrd] at this
  simpa using this
theorem hd_net {m : Nat} (h : 5 ≤ m) (st : Store) {t : PyData} {d : Nat} (ht : Nice d t = true) : heardF "told" exsK pairH (D false "made_net" m [.d t] st) = .ok (.d (heardW (netForm t) t)) st := by
  have := hear_net h (X := eC t) (a := []) (st := st) (s := st) rfl ht
  rw [a_hrd] at this
  simpa using this
theorem app_end (st : Store) {xs : List PyData} {y : PyData} (hl : xs.length < 16777216) : mAppend (st ++ [.l xs]) (.r st.length) [.d y] = some (.d .none, st ++ [.l (xs ++ [y])]) := by
  rw [app_at (st ++ [Cell.l xs]) (l := st.length) (y := y) (xs := xs) (show (st ++ [Cell.l xs])[st.length]? = some (.l xs) by simp) hl, set_last]
theorem ty_end (st : Store) (xs : List PyData) : tyS (st ++ [.l xs]) (.r st.length) = some "list" := ty_r (xs := xs) (by simp)
theorem src_links (st : Store) (L : List (Int × Int)) : srcOf st (.d (linksD L)) = some (.xs (L.map fun p => .d (pairD p))) := by
  unfold linksD
  rw [src_t, List.map_map]
  rfl
theorem web_1 (st : Store) (n : Nat) (L : List (Int × Int)) : fSub1 st (.d (webD n L)) (.d (.int 1)) = some (.d (linksD L)) := by
  unfold webD
  rw [ix_t]
  rfl
theorem nice_web {n : Nat} {L : List (Int × Int)} (h : L.length ≤ 2000) : Nice 3 (webD n L) = true := nice_two (nice_i _ _) (nice_links h 0)
def tailM (g : Bool) (q : Nat) : FS := sSeq (sAsg (gNm 4) (eIf (tOf (eOp fLt (eCB gLen (aCons (eVar 0) aNil)) (eC (.int 40)))) (eOp fAdd (eVar 0) (eTup (aCons (eTRg (rg1 (eCB gLen (aCons (eVar 0) aNil)))) aNil))) (eVar 0)))
    (sSeq (sAsg (gNm 5) (eTup (aCons (eC (.str "told")) (aCons (eTup (aCons (eCB gLen (aCons (eVar 4) aNil)) (aCons (eOp fSub1 (eOp fSub1 (eVar 6) (eC (.int 1))) (eC (.int 1))) aNil))) aNil))))
    (sRet (eCall (ofN 2 (D g "_law_ns_same" q)) (aCons (hrd (eCall (ofN 2 (D false "moral_web" q)) (aCons (eVar 4) (aCons (eVar 1) aNil)))) (aCons (eVar 5) aNil)))))
theorem tailM_eq (g : Bool) (q : Nat) : sSeq (sAsg (gNm 4) (eIf (tOf (eOp fLt (eCB gLen (aCons (eVar 0) aNil)) (eC (.int 40)))) (eOp fAdd (eVar 0) (eTup (aCons (eTRg (rg1 (eCB gLen (aCons (eVar 0) aNil)))) aNil))) (eVar 0)))
    (sSeq (sAsg (gNm 5) (eTup (aCons (eC (.str "told")) (aCons (eTup (aCons (eCB gLen (aCons (eVar 4) aNil)) (aCons (eOp fSub1 (eOp fSub1 (eVar 6) (eC (.int 1))) (eC (.int 1))) aNil))) aNil))))
    (sRet (eCall (ofN 2 (D g "_law_ns_same" q)) (aCons (hrd (eCall (ofN 2 (D false "moral_web" q)) (aCons (eVar 4) (aCons (eVar 1) aNil)))) (aCons (eVar 5) aNil))))) = tailM g q := rfl
theorem s_moral_right {m : Nat} (h : 14 ≤ m) (g : Bool) (st : Store) {N : List (List Int)} {lot other : List Int} (hN : Net N) (hL : UpF N.length (-1) lot) (hO : UpF N.length (-1) other) : D g "_law_nw6_moral_right" m [.d (netD N), .d (lotD lot), .d (lotD (joinF lot other))] st = .ok (.d (.bool true)) st := by
  obtain ⟨q, rfl⟩ := up2 (m := m) (by omega)
  have hIl := up_in rfl hL
  have hIo := up_in rfl hO
  have hIj := join_in hIl hIo
  have hJ : UpF N.length (-1) (joinF lot other) := in_up hIj (join_lt _ _)
  have hA : UpF N.length (-1) (ancF N lot) := anc_up hN hIl
  have hlen := hN.len
  have hll := hL.len'
  have a1 := fun st => s_law_moral (m := q + 1) (by omega) g st hN hL
  have a2 := fun st => s_law_moral (m := q + 1) (by omega) g st hN hJ
  have b1 := fun st => hd_moral (m := q + 1) (by omega) st hN hL
  have b2 := fun st => hd_moral (m := q + 1) (by omega) st hN hJ
  have b3 := fun st => hd_moral (m := q + 1) (by omega) st hN hA
  have b3' : moralD N (ancF N lot) = moralD N lot := by unfold moralD; rw [mor_anc hN hIl]
  rw [b3'] at b3
  have c1 := fun st => s_law_ancestors (m := q + 1) (lot := lot) (by omega) false st (by omega) hN.w (by omega)
  have c2 := fun st => s_law_links (m := q + 1) (by omega) g st hN hL
  have s1 : 1 ≤ sizeLine := by rw [size_lit]; omega
  have s2 := two_size
  have s3 : 3 ≤ sizeLine := by rw [size_lit]; omega
  have hn1 : ∀ st, gLen st [.d (netD N)] = some (.d (.int N.length)) := fun st => by simp [netD]
  have p1 := app_end st (xs := [moralD N lot]) (y := moralD N lot) (by simp)
  have p2 := app_end st (xs := [moralD N lot, moralD N lot]) (y := moralD N (joinF lot other)) (by simp)
  have t1 := ty_end st [moralD N lot]
  have t2 := ty_end st [moralD N lot, moralD N lot]
  have same := same_rows (m := q + 1) (d := 4) (by omega) (g := g) (J := st) (xs := [moralD N lot, moralD N lot, moralD N (joinF lot other)]) (fun x hx => by
    simp only [List.mem_cons, List.not_mem_nil, or_false] at hx
    rcases hx with rfl | rfl | rfl <;> exact nice_moral _ _) (by simp)
  generalize hst : st ++ [Cell.l [moralD N lot, moralD N lot, moralD N (joinF lot other)]] = S at *
  -- the less links are among the more
  have none_left : (morF N (joinF lot other)).length ≤ 400 → ∀ (E : Env), E[8]? ≠ none → E[0]? = some (some (.d (netD N))) → E[1]? = some (some (.d (lotD lot))) → E[7]? = some (some (.d (.tuple [.str "told", webD N.length (morF N (joinF lot other))]))) →
      nLc (sAny (eCall (ofN 2 (D g "_law_nk_moral_links" (q + 1))) (aCons (eVar 0) (aCons (eVar 1) aNil)))) (gNm 8) (tOf (eOp fNotIn (eVar 8) (eOp fSub1 (eOp fSub1 (eVar 7) (eC (.int 1))) (eC (.int 1))))) (eVar 8) [8] E S = .ok (.l []) S := fun hj E h8 h0 h1' h7 => by
    rw [nlc_fm (l := (morF N lot).map fun p => .d (pairD p)) (fun _ => none) ?x1 ?x2 ?x3]
    case x1 => simp [h0, h1', c2, src_links]
    case x2 =>
      intro x hx
      obtain ⟨p, hp, rfl⟩ := List.mem_map.mp hx
      have hm := mor_sub hN hIl hIo hp
      have l8 : 8 < E.length := by
        rcases Nat.lt_or_ge 8 E.length with z | z
        · exact z
        · exact absurd (List.getElem?_eq_none z) h8
      have g7 : (E.set 8 (some (.d (pairD p))))[7]? = some (some (.d (.tuple [.str "told", webD N.length (morF N (joinF lot other))]))) := by
        rw [List.getElem?_set_ne (by omega), h7]
      simp [lcTurn, wipeA, quiet, l8, g7, at2_1, web_1, notin_links, hm]
    case x3 =>
      have := mor_len hN hIl
      simp
      omega
    rw [List.filterMap_eq_nil_iff.mpr (fun _ _ => rfl)]
  rw [u_law_nw6_moral_right, tailM_eq]
  by_cases hl : (morF N lot).length ≤ 400
  · have hM : moralD N lot = .tuple [.str "told", webD N.length (morF N lot)] := if_pos hl
    have k0 : ∀ s, fSub1 s (.d (moralD N lot)) (.d (.int 0)) = some (.d (.str "told")) := fun s => by rw [hM, ix_t]; rfl
    have k1 : ∀ s, fSub1 s (.d (moralD N lot)) (.d (.int 1)) = some (.d (webD N.length (morF N lot))) := fun s => by rw [hM, ix_t]; rfl
    have w1 := fun st => hd_web (m := q + 1) (by omega) st (nice_web (n := N.length) (L := morF N lot) (by omega))
    rw [webForm_ok (by omega) hl (mor_lt _ _) (mor_rng hN hIl)] at w1
    simp only [heardW, ← hM] at w1
    have w2 := fun st => s_same (g := g) (st := st) (m := q + 1) (nice_moral N lot) (by omega)
    -- the last question
    have last : ∀ (W : List (List Int)) (E : Env), Net W → morF W lot = morF N lot → UpF W.length (-1) lot → E[4]? = some (some (.d (netD W))) → E[1]? = some (some (.d (lotD lot))) → E[5]? = some (some (.d (.tuple [.str "told", webD W.length (morF N lot)]))) →
        sRet (eCall (ofN 2 (D g "_law_ns_same" (q + 1))) (aCons (hrd (eCall (ofN 2 (D false "moral_web" (q + 1))) (aCons (eVar 4) (aCons (eVar 1) aNil)))) (aCons (eVar 5) aNil))) E S = .ok (.rt (.d (.bool true))) S := fun W E hW hm hU h4 h1' h5 => by
      have y1 := hd_moral (m := q + 1) (by omega) S hW hU
      have y2 : moralD W lot = .tuple [.str "told", webD W.length (morF N lot)] := by
        unfold moralD
        rw [hm, if_pos hl]
      have y3 := s_same (g := g) (st := S) (m := q + 1) (nice_moral W lot) (by omega)
      rw [y2] at y1 y3
      simp [h4, h1', h5, y1, y3]
    have fin : ∀ (E : Env), E.length = 9 → E[0]? = some (some (.d (netD N))) → E[1]? = some (some (.d (lotD lot))) → E[6]? = some (some (.d (moralD N lot))) →
        tailM g (q + 1) E S = .ok (.rt (.d (.bool true))) S := fun E hE h0 h1' h6 => by
      have wide : ∃ W : List (List Int), Net W ∧ morF W lot = morF N lot ∧ UpF W.length (-1) lot ∧ eIf (tOf (eOp fLt (eCB gLen (aCons (eVar 0) aNil)) (eC (.int 40)))) (eOp fAdd (eVar 0) (eTup (aCons (eTRg (rg1 (eCB gLen (aCons (eVar 0) aNil)))) aNil))) (eVar 0) E S = .ok (.d (netD W)) S := by
        by_cases h40 : N.length < 40
        · have h40' : (N.length : Int) < 40 := by omega
          refine ⟨N ++ [rI 0 N.length], net_more hN h40, mor_more hN h40 hIl, up_le hL (by simp; omega), ?_⟩
          have e1 : ∀ s, eTRg (rg1 (eCB gLen (aCons (eVar 0) aNil))) E s = .ok (.d (lotD (rI 0 N.length))) s := fun s => by
            rw [etrg_ok (i := 0) (j := N.length) (s := s) ?z (by omega) (by omega), rgD_rI]
            case z => simp [h0, hn1]
            rfl
          have e2 : fAdd S (.d (netD N)) (.d (.tuple [lotD (rI 0 N.length)])) = some (.d (netD (N ++ [rI 0 N.length]))) := by
            unfold netD
            rw [add_t _ _ _ (by simp; omega)]
            simp
          simp [h0, hn1, h40', e1, s1, e2]
        · have h40' : ¬ (N.length : Int) < 40 := by omega
          exact ⟨N, hN, rfl, hL, by simp [h0, hn1, h40']⟩
      obtain ⟨W, hW, hm, hU, eW⟩ := wide
      have hnW : ∀ st, gLen st [.d (netD W)] = some (.d (.int W.length)) := fun st => by simp [netD]
      unfold tailM
      rw [s_seq, s_asg, eW]
      simp only [Out.bind_ok, g_nm]
      have f4 : (E.set 4 (some (.d (netD W))))[4]? = some (some (.d (netD W))) := by
        rw [List.getElem?_set_self (by omega)]
      have f6 : (E.set 4 (some (.d (netD W))))[6]? = some (some (.d (moralD N lot))) := by
        rw [List.getElem?_set_ne (by omega), h6]
      have eD : eTup (aCons (eC (.str "told")) (aCons (eTup (aCons (eCB gLen (aCons (eVar 4) aNil)) (aCons (eOp fSub1 (eOp fSub1 (eVar 6) (eC (.int 1))) (eC (.int 1))) aNil))) aNil)) (E.set 4 (some (.d (netD W)))) S = .ok (.d (.tuple [.str "told", webD W.length (morF N lot)])) S := by
        simp [f4, f6, hnW, k1, web_1, s2]
        rfl
      rw [s_seq, s_asg, eD]
      simp only [Out.bind_ok, g_nm]
      refine last W _ hW hm hU ?_ ?_ ?_
      · rw [List.getElem?_set_ne (by omega), f4]
      · rw [List.getElem?_set_ne (by omega), List.getElem?_set_ne (by omega), h1']
      · rw [List.getElem?_set_self (by simp; omega)]
    by_cases hj : (morF N (joinF lot other)).length ≤ 400
    · have hMj : moralD N (joinF lot other) = .tuple [.str "told", webD N.length (morF N (joinF lot other))] := if_pos hj
      have j0 : ∀ s, fSub1 s (.d (moralD N (joinF lot other))) (.d (.int 0)) = some (.d (.str "told")) := fun s => by rw [hMj, ix_t]; rfl
      simp only [run_e, startA]
      simp [List.replicate, a1, a2, b1, b2, b3, c1, s1, t1, p1, t2, p2, hst, s3, same, j0, feq_strs]
      rw [none_left hj _ (by simp) rfl rfl (by rw [← hMj]; rfl)]
      simp [fne_nil, k0, k1, fne_strs, w1, w2]
      rw [fin _ rfl rfl rfl rfl]
      simp [← hst]
    · have hMj : moralD N (joinF lot other) = .tuple [.str "TooMany", .int (morF N (joinF lot other)).length] := if_neg hj
      have j0 : ∀ s, fSub1 s (.d (moralD N (joinF lot other))) (.d (.int 0)) = some (.d (.str "TooMany")) := fun s => by rw [hMj, ix_t]; rfl
      simp only [run_e, startA]
      simp [List.replicate, a1, a2, b1, b2, b3, c1, s1, t1, p1, t2, p2, hst, s3, same, j0, feq_strs, k0, k1, fne_strs, w1, w2, tw2]
      rw [fin _ rfl rfl rfl rfl]
      simp [← hst]
  · have hM : moralD N lot = .tuple [.str "TooMany", .int (morF N lot).length] := if_neg hl
    have k0 : ∀ s, fSub1 s (.d (moralD N lot)) (.d (.int 0)) = some (.d (.str "TooMany")) := fun s => by rw [hM, ix_t]; rfl
    by_cases hj : (morF N (joinF lot other)).length ≤ 400
    · have hMj : moralD N (joinF lot other) = .tuple [.str "told", webD N.length (morF N (joinF lot other))] := if_pos hj
      have j0 : ∀ s, fSub1 s (.d (moralD N (joinF lot other))) (.d (.int 0)) = some (.d (.str "told")) := fun s => by rw [hMj, ix_t]; rfl
      simp only [run_e, startA]
      simp [List.replicate, a1, a2, b1, b2, b3, c1, s1, t1, p1, t2, p2, hst, s3, same, j0, feq_strs]
      rw [none_left hj _ (by simp) rfl rfl (by rw [← hMj]; rfl)]
      simp [fne_nil, k0, fne_strs, tw2, ← hst]
    · have hMj : moralD N (joinF lot other) = .tuple [.str "TooMany", .int (morF N (joinF lot other)).length] := if_neg hj
      have j0 : ∀ s, fSub1 s (.d (moralD N (joinF lot other))) (.d (.int 0)) = some (.d (.str "TooMany")) := fun s => by rw [hMj, ix_t]; rfl
      simp only [run_e, startA]
      simp [List.replicate, a1, a2, b1, b2, b3, c1, s1, t1, p1, t2, p2, hst, s3, same, j0, feq_strs, k0, fne_strs, tw2]
      simp [← hst]
end NL
end
section
set_option Elab.async false
set_option linter.all false
set_option maxRecDepth 100000
set_option maxHeartbeats 2000000
/-! Plain: a net's own text. -/
namespace NL
open PySem PySem.Spec PyProof.Rows L2

theorem int_len : ((List.range 64).all fun (i : Nat) => decide ((PyData.shown (.int (i : Int))).length ≤ 2)) = true := by
  decide +kernel
theorem int_shown {i : Int} (h : 0 ≤ i ∧ i < 64) : (PyData.shown (.int i)).length ≤ 2 := by
  have h1 := List.all_eq_true.mp int_len i.toNat (List.mem_range.mpr (by omega))
  have h2 := of_decide_eq_true h1
  rw [Int.toNat_of_nonneg h.1] at h2
  exact h2
theorem piled_le {k : Nat} : ∀ {ts : List Str}, (∀ t ∈ ts, t.length ≤ k) → piled ts ≤ ts.length * (k + 2)
  | [], _ => by simp [piled]
  | t :: ts, h => by
    have h1 := h t (List.mem_cons_self ..)
    have ih := piled_le (ts := ts) fun u hu => h u (List.mem_cons_of_mem _ hu)
    rw [piled_cons, List.length_cons, Nat.add_mul]
    omega
theorem tuple_le {k : Nat} {ts : List Str} (h : ∀ t ∈ ts, t.length ≤ k) : (tupleText ts).length ≤ ts.length * (k + 2) + 3 := by
  unfold tupleText
  rw [strLen_append, strLen_append]
  have e1 : ((("(" : String) : Str)).length = 1 := rfl
  have e2 : ∀ b : Bool, (((if b then ",)" else ")" : String) : Str)).length ≤ 2 := fun b => by cases b <;> decide
  have h2 := piled_le h
  rw [e1]
  have e3 := e2 (ts.length == 1)
  have e4 : (Str.join ", " ts).length ≤ ts.length * (k + 2) := by
    by_cases z : ts = []
    · subst z
      exact Nat.le_of_eq (by rw [List.length_nil, Nat.zero_mul]; rfl)
    · have := join_length_add ts z
      omega
  omega
theorem shownAll_map {xs : List PyData} {t : Str} (h : t ∈ PyData.shownAll xs) : ∃ x ∈ xs, t = x.shown := by
  induction xs with
  | nil => cases h
  | cons x xs ih =>
    rw [PyData.shownAll] at h
    rcases List.mem_cons.mp h with h | h
    · exact ⟨x, List.mem_cons_self .., h⟩
    · obtain ⟨y, hy, e⟩ := ih h
      exact ⟨y, List.mem_cons_of_mem _ hy, e⟩
theorem shownAll_len (xs : List PyData) : (PyData.shownAll xs).length = xs.length := by
  induction xs with
  | nil => rfl
  | cons x xs ih => rw [PyData.shownAll, List.length_cons, List.length_cons, ih]
theorem lot_shown {l : List Int} (hl : l.length ≤ 40) (h : ∀ x ∈ l, 0 ≤ x ∧ x < 64) : (lotD l).shown.length ≤ 170 := by
  show (tupleText (PyData.shownAll (l.map .int))).length ≤ 170
  have := tuple_le (k := 2) (ts := PyData.shownAll (l.map .int)) (fun t ht => by
    obtain ⟨x, hx, rfl⟩ := shownAll_map ht
    obtain ⟨i, hi, rfl⟩ := List.mem_map.mp hx
    exact int_shown (h i hi))
  rw [shownAll_len, List.length_map] at this
  omega
theorem net_rng {N : List (List Int)} (hN : Net N) : ∀ l ∈ N, l.length ≤ 40 ∧ ∀ x ∈ l, 0 ≤ x ∧ x < 64 := fun l hl => by
  obtain ⟨v, hv, e⟩ := List.getElem_of_mem hl
  have e2 := atN_of hv
  rw [List.getElem?_eq_getElem hv, e] at e2
  cases e2
  have hu := hN.up v hv
  have := hN.len
  refine ⟨by have := hu.len'; omega, fun x hx => ?_⟩
  have := hu.lt x hx
  omega
theorem net_shown {N : List (List Int)} (hN : Net N) : (netD N).shown.length ≤ 10000 := by
  show (tupleText (PyData.shownAll (N.map lotD))).length ≤ 10000
  have := tuple_le (k := 170) (ts := PyData.shownAll (N.map lotD)) (fun t ht => by
    obtain ⟨x, hx, rfl⟩ := shownAll_map ht
    obtain ⟨l, hl, rfl⟩ := List.mem_map.mp hx
    obtain ⟨h1, h2⟩ := net_rng hN l hl
    exact lot_shown h1 h2)
  rw [shownAll_len, List.length_map] at this
  have := hN.len
  omega
theorem showAll_of {xs : List PyData} (h : ∀ x ∈ xs, x.showable = true) : PyData.showableAll xs = true := by
  induction xs with
  | nil => rfl
  | cons x xs ih =>
    rw [PyData.showableAll, h x (List.mem_cons_self ..), ih fun y hy => h y (List.mem_cons_of_mem _ hy)]
    rfl
theorem noDictAll_of {xs : List PyData} (h : ∀ x ∈ xs, x.hasDict = false) : PyData.hasDictAll xs = false := by
  induction xs with
  | nil => rfl
  | cons x xs ih =>
    rw [PyData.hasDictAll, h x (List.mem_cons_self ..), ih fun y hy => h y (List.mem_cons_of_mem _ hy)]
    rfl
theorem depAll_of {k : Nat} {xs : List PyData} (h : ∀ x ∈ xs, x.depth ≤ k) : PyData.depthAll xs ≤ k := by
  induction xs with
  | nil => simp [PyData.depthAll]
  | cons x xs ih =>
    rw [PyData.depthAll]
    have := h x (List.mem_cons_self ..)
    have := ih fun y hy => h y (List.mem_cons_of_mem _ hy)
    omega
theorem repr_net {N : List (List Int)} (hN : Net N) (st : Store) : gRepr st [.d (netD N)] = some (.d (.str (netD N).shown)) := by
  have h1 : (netD N).showable = true := by
    show PyData.showableAll (N.map lotD) = true
    refine showAll_of fun x hx => ?_
    obtain ⟨l, hl, rfl⟩ := List.mem_map.mp hx
    show PyData.showableAll (l.map .int) = true
    refine showAll_of fun x hx => ?_
    obtain ⟨i, hi, rfl⟩ := List.mem_map.mp hx
    have := (net_rng hN l hl).2 i hi
    show decide (i.natAbs.log2 < 1920) = true
    apply decide_eq_true
    have : i.natAbs.log2 < 6 ∨ i.natAbs = 0 := by
      by_cases z : i.natAbs = 0
      · exact .inr z
      · exact .inl ((Nat.log2_lt z).mpr (by omega))
    rcases this with h | h
    · omega
    · rw [h]; decide
  have h2 : (netD N).hasDict = false := by
    show PyData.hasDictAll (N.map lotD) = false
    refine noDictAll_of fun x hx => ?_
    obtain ⟨l, hl, rfl⟩ := List.mem_map.mp hx
    show PyData.hasDictAll (l.map .int) = false
    refine noDictAll_of fun x hx => ?_
    obtain ⟨i, hi, rfl⟩ := List.mem_map.mp hx
    rfl
  have h3 : (netD N).depth ≤ 60 := by
    show PyData.depthAll (N.map lotD) + 1 ≤ 60
    have : PyData.depthAll (N.map lotD) ≤ 1 := depAll_of fun x hx => by
      obtain ⟨l, hl, rfl⟩ := List.mem_map.mp hx
      show PyData.depthAll (l.map .int) + 1 ≤ 1
      have : PyData.depthAll (l.map .int) ≤ 0 := depAll_of fun x hx => by
        obtain ⟨i, hi, rfl⟩ := List.mem_map.mp hx
        rw [dep_i]
        omega
      omega
    omega
  have h4 : (netD N).shown.length ≤ sizeLine := by
    have := net_shown hN
    rw [size_lit]
    omega
  have h5 : isSeqD (netD N) = true := rfl
  simp only [gRepr, vw]
  rw [h5]
  unfold reprB
  rw [h1, h2, decide_eq_true h3, decide_eq_true h4]
  rfl
theorem eqv_ints (xs : List Int) : PyData.eqv (lotD xs) (lotD xs) = true := by
  unfold lotD
  rw [PyData.eqv]
  induction xs with
  | nil => rfl
  | cons x xs ih => rw [List.map_cons, PyData.eqvAll, ih, eqv_i]; simp
theorem dep_lot (xs : List Int) : (lotD xs).depth ≤ 1 := by
  show PyData.depthAll (xs.map .int) + 1 ≤ 1
  have : PyData.depthAll (xs.map .int) ≤ 0 := depAll_of fun x hx => by
    obtain ⟨i, hi, rfl⟩ := List.mem_map.mp hx
    rw [dep_i]
    omega
  omega
theorem fne_lot (st : Store) (xs : List Int) : fNe st (.d (lotD xs)) (.d (lotD xs)) = some (.d (.bool false)) := by
  have := dep_lot xs
  simp [fNe, onD, eqv_ints]
  omega
end NL
end
section
set_option Elab.async false
set_option linter.all false
set_option maxRecDepth 100000
set_option maxHeartbeats 2000000
/-! Plain: nets right. -/
namespace NL
open PySem PySem.Spec PyProof.Rows L2

theorem seq_nx {f g : FS} {a a' : Env} {st s : Store} (h : f a st = .ok (.nx a') s) : sSeq f g a st = g a' s := by
  rw [s_seq, h]
theorem asg_nx {i : Nat} {X : FE} {a : Env} {st s : Store} {v : AV} (h : X a st = .ok v s) : sAsg (gNm i) X a st = .ok (.nx (a.set i (some v))) s := by
  rw [s_asg, h]
  rfl
theorem srt_c (st : Store) (ks : List Int) : gSort st [.c (dI ks)] = some (.d (.list ((sortI ks).map .int))) := by
  have e : (dI ks).keys = ks.map PyData.int := by
    simp [dI, DC.keys, kv, keyD, kI]
  simp only [gSort, oneOfC, gSort1, ls, vw, gSort2, dcOf, e, sortB_i, if_true, sortI_map]
theorem add_lot (st : Store) (a b : List Int) (h : a.length + b.length ≤ 16777216) : fAdd st (.d (lotD a)) (.d (lotD b)) = some (.d (lotD (a ++ b))) := by
  unfold lotD
  rw [add_t _ _ _ (by simpa using h)]
  simp
/-- tuple(sorted(dict([(v, True) for v in a + b]))) -/
theorem join_e {X Y : FE} {e : Env} {st : Store} {a b : List Int} (hX : X e st = .ok (.d (lotD a)) st) (hY : Y e st = .ok (.d (lotD b)) st) (hj : 10 < e.length) (hl : a.length + b.length ≤ 1000) :
    eCB gTuple (aCons (eCB gSort (aCons (frzF (nCB hDictK (aCons (frzF (nLc (sAny (eOp fAdd X Y)) (gNm 10) tYes' (eTup (aCons (eVar 10) (aCons (eC (.bool true)) aNil))) [10])) aNil))) aNil)) aNil) e st = .ok (.d (lotD (joinF a b))) st := by
  have e1 := nlc_kv (src := sAny (eOp fAdd X Y)) (j := 10) (a := e) (st := st) (l := a ++ b) hj (by simp [hX, hY, add_lot st a b (by omega), lot_src]) (by simp; omega)
  unfold joinF
  generalize a ++ b = ab at e1 ⊢
  simp [e1, hdk, srt_c, lotD]
theorem net_body2 {m : Nat} (h : 16 ≤ m) {g : Bool} {n : Nat} {J : Cell} {rest : Store} {N : List (List Int)} {was x3 x4 x5 x6 x7 x8 x9 x10 : Option AV} (hJ : Jr n J) (hn : n + 1000 ≤ 2 ^ 250) (hN : Net N) :
    ∃ (J' : Cell) (c : Cell) (y4 y5 y6 y7 y8 : Option AV), b0_law_nw6_net_right g m [some (.r 0), some (.d (netD N)), was, x3, x4, x5, x6, x7, x8, x9, x10] (J :: rest) = .ok (.nx [some (.r 0), some (.d (netD N)), was, x3, y4, y5, y6, y7, y8, x9, x10]) (J' :: (rest ++ [c])) ∧ Jr (n + 1000) J' := by
  have hlen := hN.len
  obtain ⟨x, J1, e1, hx, hJ1⟩ := s_one (m := m) (by omega) g hJ (by omega) rest (xs := [.int 1, .int 2, .int 4, .int 9, .int 99]) (by simp) (by simp)
  have hx' : ∃ k : Nat, x = .int (k : Int) ∧ 0 < k ∧ k ≤ 99 := by
    simp only [List.mem_cons, List.not_mem_nil, or_false] at hx
    rcases hx with rfl | rfl | rfl | rfl | rfl
    · exact ⟨1, rfl, by omega, by omega⟩
    · exact ⟨2, rfl, by omega, by omega⟩
    · exact ⟨4, rfl, by omega, by omega⟩
    · exact ⟨9, rfl, by omega, by omega⟩
    · exact ⟨99, rfl, by omega, by omega⟩
  obtain ⟨k, rfl, hk, hk2⟩ := hx'
  obtain ⟨one, J2, e2, h1', hJ2⟩ := s_lot (m := m) (by omega) g hJ1 rest (many := N.length) (part := k) (by omega) (by omega) hk (by omega)
  obtain ⟨two, J3, e3, h2', hJ3⟩ := s_lot (m := m) (by omega) g hJ2 rest (many := N.length) (part := 5) (by omega) (by omega) (by omega) (by omega)
  rw [show ((5 : Nat) : Int) = 5 from rfl] at e3
  have l1 := h1'.len'
  have l2 := h2'.len'
  have i1 := up_in rfl h1'
  have i2 := up_in rfl h2'
  have ij := join_in i1 i2
  have hj := in_up ij (join_lt one two)
  have lj := hj.len'
  have la1 := anc_len hN i1
  have la2 := anc_len hN i2
  have laj := anc_len hN ij
  have hA := anc_up hN i1
  have s1 : 1 ≤ sizeLine := by rw [size_lit]; omega
  have s2 := two_size
  have s3 : 3 ≤ sizeLine := by rw [size_lit]; omega
  have s5 : 5 ≤ sizeLine := by rw [size_lit]; omega
  have hn1 : ∀ st, gLen st [.d (netD N)] = some (.d (.int N.length)) := fun st => by simp [netD]
  have a1 := fun st => s_law_ancestors (m := m) (lot := one) (by omega) g st (by omega) hN.w (by omega)
  have a2 := fun st => s_law_ancestors (m := m) (lot := two) (by omega) g st (by omega) hN.w (by omega)
  have a3 := fun st => s_law_ancestors (m := m) (lot := joinF one two) (by omega) g st (by omega) hN.w (by omega)
  have b1 := fun st => hd_anc (m := m) (by omega) st hN h1'
  have b2 := fun st => hd_anc (m := m) (by omega) st hN hj
  have b3 := fun st => hd_anc (m := m) (by omega) st hN hA
  rw [anc_anc hN i1] at b3
  let T1 : PyData := .tuple [.str "told", lotD (ancF N one)]
  let T2 : PyData := .tuple [.str "told", lotD (ancF N (joinF one two))]
  let St : Store := J3 :: rest
  have p1 := app_end St (xs := [T1]) (y := T2) (by simp)
  have p2 := app_end St (xs := [T1, T2]) (y := T1) (by simp)
  have t1 := ty_end St [T1]
  have t2 := ty_end St [T1, T2]
  have same := same_rows (m := m) (d := 2) (by omega) (g := g) (J := St) (xs := [T1, T2, T1]) (fun x hx => by
    simp only [List.mem_cons, List.not_mem_nil, or_false] at hx
    rcases hx with rfl | rfl | rfl
    · exact nice_told (nice_lot (by omega) 0)
    · exact nice_told (nice_lot (by omega) 0)
    · exact nice_told (nice_lot (by omega) 0)) (by simp)
  have mr := fun st => s_moral_right (m := m) (by omega) g st hN h1' h2'
  have hSt : ∀ xs, St ++ [Cell.l xs] = J3 :: (rest ++ [.l xs]) := fun xs => rfl
  have hSl : St.length = rest.length + 1 := rfl
  let O : PyData := .list [lotD (ancF N one), lotD (ancF N two), lotD (ancF N (joinF one two))]
  refine ⟨J3, .l [T1, T2, T1], some (.d (lotD (joinF one two))), some (.d O), some (.r (rest.length + 1)), some (.d (lotD one)), some (.d (lotD two)), ?_, hJ3.up (by omega)⟩
  rw [xb0_law_nw6_net_right]
  rw [seq_nx (a' := [some (.r 0), some (.d (netD N)), was, x3, x4, x5, x6, some (.d (lotD one)), some (.d (lotD two)), x9, x10]) (s := J3 :: rest) ?q1]
  case q1 => simp [hn1, s5, e1, e2, e3]
  rw [seq_nx (asg_nx (join_e (a := one) (b := two) (by simp) (by simp) (by simp) (by omega)))]
  simp only [List.set_cons_succ, List.set_cons_zero]
  rw [seq_nx (asg_nx (v := .d O) (s := J3 :: rest) ?q3)]
  case q3 =>
    rw [a_frz, lc_xs _ _ _ _ _ (l := [.d (lotD one), .d (lotD two), .d (lotD (joinF one two))]) (s := J3 :: rest) (by simp [s3])]
    have z0 : ([] : List PyData).length < sizeLine := by rw [size_lit]; simp
    have z1 : 1 < sizeLine := by rw [size_lit]; omega
    have z2 : 2 < sizeLine := by rw [size_lit]; omega
    have z3 : 0 < sizeLine := by rw [size_lit]; omega
    simp [lcL, lcTurn, wipeA, quiet, a1, a2, a3, z0, z1, z2, z3, O]
  simp only [List.set_cons_succ, List.set_cons_zero]
  rw [seq_nx (a' := [some (.r 0), some (.d (netD N)), was, x3, some (.d (lotD (joinF one two))), some (.d O), some (.r St.length), some (.d (lotD one)), some (.d (lotD two)), x9, x10]) (s := St ++ [.l [T1]]) ?q4]
  case q4 => simp [b1, s1, T1, St]
  rw [seq_nx (a' := [some (.r 0), some (.d (netD N)), was, x3, some (.d (lotD (joinF one two))), some (.d O), some (.r St.length), some (.d (lotD one)), some (.d (lotD two)), x9, x10]) (s := St ++ [.l [T1, T2]]) ?q5]
  case q5 =>
    rw [s_drop, a_m, a_var]
    simp only [List.getElem?_cons_succ, List.getElem?_cons_zero, Out.bind_ok, t1, if_true, a_cons, a_hrd, a_call, a_var, a_nil, a_ofn, List.length_cons, List.length_nil, b2]
    rw [p1]
    rfl
  rw [seq_nx (a' := [some (.r 0), some (.d (netD N)), was, x3, some (.d (lotD (joinF one two))), some (.d O), some (.r St.length), some (.d (lotD one)), some (.d (lotD two)), x9, x10]) (s := St ++ [.l [T1, T2, T1]]) ?q6]
  case q6 =>
    have o0 : ∀ s, fSub1 s (.d O) (.d (.int 0)) = some (.d (lotD (ancF N one))) := fun s => by rw [ix_l]; rfl
    rw [s_drop, a_m, a_var]
    simp only [List.getElem?_cons_succ, List.getElem?_cons_zero, Out.bind_ok, t2, if_true, a_cons, a_hrd, a_call, a_var, a_nil, a_ofn, List.length_cons, List.length_nil, a_op, a_c, o0, lift_some, b3]
    rw [p2]
    rfl
  have o0 : ∀ s, fSub1 s (.d O) (.d (.int 0)) = some (.d (lotD (ancF N one))) := fun s => by rw [ix_l]; rfl
  have o1 : ∀ s, fSub1 s (.d O) (.d (.int 1)) = some (.d (lotD (ancF N two))) := fun s => by rw [ix_l]; rfl
  have o2 : ∀ s, fSub1 s (.d O) (.d (.int 2)) = some (.d (lotD (ancF N (joinF one two)))) := fun s => by rw [ix_l]; rfl
  generalize hS : St ++ [Cell.l [T1, T2, T1]] = S at *
  rw [seq_nx (a' := [some (.r 0), some (.d (netD N)), was, x3, some (.d (lotD (joinF one two))), some (.d O), some (.r St.length), some (.d (lotD one)), some (.d (lotD two)), x9, x10]) (s := S) ?q7]
  case q7 =>
    simp [o0, o2, s2, s3]
    have same : D g "_law_ns_same" m [.r St.length, .d (.list [.tuple [.str "told", lotD (ancF N one)], .tuple [.str "told", lotD (ancF N (joinF one two))], .tuple [.str "told", lotD (ancF N one)]])] S = .ok (.d (.bool true)) S := same
    simp [same]
  rw [seq_nx (a' := [some (.r 0), some (.d (netD N)), was, x3, some (.d (lotD (joinF one two))), some (.d O), some (.r St.length), some (.d (lotD one)), some (.d (lotD two)), x9, x10]) (s := S) ?q8]
  case q8 =>
    have je := join_e (X := eOp fSub1 (eVar 5) (eC (.int 0))) (Y := eOp fSub1 (eVar 5) (eC (.int 1))) (e := [some (.r 0), some (.d (netD N)), was, x3, some (.d (lotD (joinF one two))), some (.d O), some (.r St.length), some (.d (lotD one)), some (.d (lotD two)), x9, x10]) (st := S) (a := ancF N one) (b := ancF N two) (by simp [o0]) (by simp [o1]) (by simp) (by omega)
    rw [← anc_join hN i1 i2] at je
    rw [s_if, a_tof, a_op, show eOp fSub1 (eVar 5) (eC (.int 2)) [some (.r 0), some (.d (netD N)), was, x3, some (.d (lotD (joinF one two))), some (.d O), some (.r St.length), some (.d (lotD one)), some (.d (lotD two)), x9, x10] S = .ok (.d (lotD (ancF N (joinF one two)))) S by simp [o2]]
    simp only [Out.bind_ok]
    rw [je]
    simp [fne_lot]
  simp [mr]
  rw [← hS]
  simp [hSl]
  rfl
theorem net_right_loop {m : Nat} (h : 16 ≤ m) {g : Bool} {N : List (List Int)} {was : Option AV} (hN : Net N) : ∀ (k i n : Nat) (J : Cell) (rest : Store) (x3 x4 x5 x6 x7 x8 x9 x10 : Option AV), Jr n J → n + 1000 * k ≤ 2 ^ 250 →
    ∃ (J' : Cell) (cells : Store) (y3 y4 y5 y6 y7 y8 : Option AV), forL (gNm 3) (b0_law_nw6_net_right g m) (rgF i k) [some (.r 0), some (.d (netD N)), was, x3, x4, x5, x6, x7, x8, x9, x10] (J :: rest) = .ok (.nx [some (.r 0), some (.d (netD N)), was, y3, y4, y5, y6, y7, y8, x9, x10]) (J' :: (rest ++ cells)) ∧ Jr (n + 1000 * k) J'
  | 0, i, n, J, rest, x3, x4, x5, x6, x7, x8, x9, x10, hJ, _ => ⟨J, [], x3, x4, x5, x6, x7, x8, by rw [List.append_nil]; rfl, hJ⟩
  | k + 1, i, n, J, rest, x3, x4, x5, x6, x7, x8, x9, x10, hJ, hn => by
    obtain ⟨J1, c, y4, y5, y6, y7, y8, e1, hJ1⟩ := net_body2 h (g := g) (rest := rest) (was := was) (x3 := some (.d (.int (i : Int)))) (x4 := x4) (x5 := x5) (x6 := x6) (x7 := x7) (x8 := x8) (x9 := x9) (x10 := x10) hJ (by omega) hN
    obtain ⟨J2, cells, z3, z4, z5, z6, z7, z8, e2, hJ2⟩ := net_right_loop h (g := g) (was := was) hN k (i + 1) (n + 1000) J1 (rest ++ [c]) (some (.d (.int (i : Int)))) y4 y5 y6 y7 y8 x9 x10 hJ1 (by omega)
    refine ⟨J2, c :: cells, z3, z4, z5, z6, z7, z8, ?_, hJ2.up (by omega)⟩
    rw [rgF]
    unfold forL
    simp only [g_nm, List.set_cons_succ, List.set_cons_zero]
    rw [e1]
    rw [List.append_assoc] at e2
    exact e2
theorem s_net_right {m : Nat} (h : 18 ≤ m) {n : Nat} {J : Cell} (rest : Store) {N : List (List Int)} (hJ : Jr n J) (hn : n + 10000 ≤ 2 ^ 250) (hN : Net N) : ∃ J', D true "_law_nw6_net_right" m [.r 0, .d (netD N)] (J :: rest) = .ok (.d (.bool true)) (J' :: rest) ∧ Jr (n + 10000) J' := by
  obtain ⟨q, rfl⟩ := up2 (m := m) (by omega)
  obtain ⟨J', cells, y3, y4, y5, y6, y7, y8, loop, hJ'⟩ := net_right_loop (m := q + 1) (by omega) (g := true) (was := some (.d (.str (netD N).shown))) hN 5 0 n J rest none none none none none none none none hJ (by omega)
  refine ⟨J', ?_, hJ'.up (by omega)⟩
  have rp := repr_net hN
  have hh := fun st => hd_net (m := q + 1) (by omega) st (slim_nice (slim_net hN))
  rw [netForm_none.mpr ⟨N, rfl, hN⟩] at hh
  simp only [heardW] at hh
  have hs := fun st => s_same (g := true) (st := st) (m := q + 1) (nice_told (slim_nice (slim_net hN))) (by omega)
  have s2 := two_size
  rw [u_law_nw6_net_right false q]
  simp [startA, List.replicate, rp, hh, hs, s2]
  rw [for_xs _ _ _ (srg1_ok (s := J :: rest) (n := 5) ?h1 (by omega)), loop]
  case h1 => simp
  simp [rp, feq_s]
end NL
end
section
set_option Elab.async false
set_option linter.all false
set_option maxRecDepth 100000
set_option maxHeartbeats 2000000
/-! Plain: great nets; by hand. -/
namespace NL
open PySem PySem.Spec PyProof.Rows L2

theorem sort_eq {l m : List Int} (nd : l.Nodup) (hm : m.Pairwise (· < ·)) (h : ∀ x, x ∈ l ↔ x ∈ m) : sortI l = m := sorted_ext (sortI_lt nd) hm fun x => mem_sortI.trans (h x)
theorem sortP_eq {l m : List (Int × Int)} (nd : l.Nodup) (hm : m.Pairwise (fun p q => ltP p q = true)) (h : ∀ x, x ∈ l ↔ x ∈ m) : sortP l = m := sortedP_ext (sortP_lt nd) hm fun x => mem_sortP.trans (h x)
def N3 : List (List Int) := [[], [], [0, 1]]
theorem net3 : Net N3 := ⟨by decide, fun v hv => by
  have : v = 0 ∨ v = 1 ∨ v = 2 := by
    have : v < 3 := hv
    omega
  rcases this with rfl | rfl | rfl
  · trivial
  · trivial
  · exact ⟨⟨by omega, by omega⟩, ⟨by omega, by omega⟩, trivial⟩⟩
theorem anc3a : ancF N3 [2] = [0, 1, 2] := by
  unfold ancF
  rw [show foundF N3 [2] = [2, 0, 1] by decide]
  refine sort_eq (by decide) (by decide) fun x => ?_
  simp
  omega
theorem anc3b : ancF N3 [1] = [1] := by
  unfold ancF
  rw [show foundF N3 [1] = [1] by decide]
  exact sort_eq (by decide) (by decide) fun x => Iff.rfl
theorem anc3c : ancF N3 [] = [] := by
  unfold ancF
  rw [show foundF N3 [] = [] by decide]
  exact sort_eq (by decide) (by decide) fun x => Iff.rfl
theorem anc3d : ancF N3 [0, 1] = [0, 1] := by
  unfold ancF
  rw [show foundF N3 [0, 1] = [0, 1] by decide]
  exact sort_eq (by decide) (by decide) fun x => Iff.rfl
theorem mor3a : morF N3 [2] = [(0, 1), (0, 2), (1, 2)] := by
  unfold morF
  rw [anc3a, show linksF N3 [0, 1, 2] = [(0, 1), (0, 2), (1, 2)] by decide]
  exact sortP_eq (by decide) (by decide) fun x => Iff.rfl
theorem mor3b : morF N3 [0, 1] = [] := by
  unfold morF
  rw [anc3d, show linksF N3 [0, 1] = [] by decide]
  exact sortP_eq (by decide) (by decide) fun x => Iff.rfl
theorem s_hand {m : Nat} (h : 14 ≤ m) (g : Bool) (st : Store) : D g "_law_nw6_hand_right" m [] st = .ok (.d (.bool true)) st := by
  obtain ⟨q, rfl⟩ := up2 (m := m) (by omega)
  have u2 : UpF N3.length (-1) [2] := ⟨⟨by decide, by decide⟩, trivial⟩
  have u1 : UpF N3.length (-1) [1] := ⟨⟨by decide, by decide⟩, trivial⟩
  have u0 : UpF N3.length (-1) [] := trivial
  have u01 : UpF N3.length (-1) [0, 1] := ⟨⟨by decide, by decide⟩, ⟨by decide, by decide⟩, trivial⟩
  have a2 := fun st => s_ancestors_ok (m := q + 1) (by omega) false st net3 u2
  have a1 := fun st => s_ancestors_ok (m := q + 1) (by omega) false st net3 u1
  have a0 := fun st => s_ancestors_ok (m := q + 1) (by omega) false st net3 u0
  have b2 : ∀ st, D false "moral_web" (q + 1) [.d (netD N3), .d (lotD [2])] st = .ok (.d (webD N3.length [(0, 1), (0, 2), (1, 2)])) st := fun st => by
    have := s_moral_ok (m := q + 1) (by omega) false st net3 u2
    rw [mor3a, if_neg (by decide)] at this
    exact this
  have b1 : ∀ st, D false "moral_web" (q + 1) [.d (netD N3), .d (lotD [0, 1])] st = .ok (.d (webD N3.length [])) st := fun st => by
    have := s_moral_ok (m := q + 1) (by omega) false st net3 u01
    rw [mor3b, if_neg (by decide)] at this
    exact this
  rw [anc3a] at a2
  rw [anc3b] at a1
  rw [anc3c] at a0
  have eN : netD N3 = .tuple [.tuple [], .tuple [], .tuple [.int 0, .int 1]] := rfl
  simp only [eN, lotD, webD, linksD, pairD, List.map_cons, List.map_nil] at a2 a1 a0 b2 b1
  rw [show ((N3.length : Nat) : Int) = 3 from rfl] at b2 b1
  have s0 : 0 ≤ sizeLine := Nat.zero_le _
  have s1 : 1 ≤ sizeLine := by rw [size_lit]; omega
  have s2 := two_size
  have s3 : 3 ≤ sizeLine := by rw [size_lit]; omega
  let T1 : PyData := .tuple [.str "told", .tuple [.tuple [.int 0, .int 1, .int 2], .tuple [.int 1], .tuple []]]
  let T2 : PyData := .tuple [.str "told", .tuple [.tuple [.int 3, .tuple [.tuple [.int 0, .int 1], .tuple [.int 0, .int 2], .tuple [.int 1, .int 2]]], .tuple [.int 3, .tuple []]]]
  have hr : ∀ d s, heardF "told" exsK pairH (.ok (.d d) s) = .ok (.d (.tuple [.str "told", d])) s := fun d s => rfl
  have p1 := app_end st (xs := [T1]) (y := T2) (by simp)
  have t1 := ty_end st [T1]
  have same := same_rows (m := q + 1) (d := 5) (by omega) (g := g) (J := st) (xs := [T1, T2]) (fun x hx => by
    simp only [List.mem_cons, List.not_mem_nil, or_false] at hx
    rcases hx with rfl | rfl <;> rfl) (by simp)
  rw [u_law_nw6_hand_right]
  simp only [T1, T2, List.cons_append, List.nil_append] at p1 t1 same
  simp [startA, List.replicate, a2, a1, a0, b2, b1, s0, s1, s2, s3, hr, t1, p1, same]
end NL
end
section
set_option Elab.async false
set_option linter.all false
set_option maxRecDepth 100000
set_option maxHeartbeats 2000000
/-! Plain: great nets. -/
namespace NL
open PySem PySem.Spec PyProof.Rows L2

theorem net_of {N : List (List Int)} (h : N.length ≤ 40) (hu : ∀ (v : Nat) (l : List Int), N[v]? = some l → UpF (v : Int) (-1) l) : Net N := ⟨h, fun v hv => hu v _ (atN_of hv)⟩
theorem rI_get : ∀ (n i v : Nat), v < n → (rI i n)[v]? = some ((i + v : Nat) : Int)
  | 0, _, _, h => by omega
  | n + 1, i, 0, _ => by simp [rI]
  | n + 1, i, v + 1, h => by
    rw [rI, List.getElem?_cons_succ, rI_get n (i + 1) v (by omega)]
    congr 2
    omega
theorem rI_up (v : Nat) : UpF (v : Int) (-1) (rI 0 v) := sub_up (List.Sublist.refl _) (by omega)
def fullN (n : Nat) : List (List Int) := (rI 0 n).map fun v => rI 0 v.toNat
theorem full_len (n : Nat) : (fullN n).length = n := by simp [fullN, len_rI]
theorem full_get {n v : Nat} (h : v < n) : (fullN n)[v]? = some (rI 0 v) := by
  simp [fullN, rI_get n 0 v h]
theorem full_net {n : Nat} (h : n ≤ 40) : Net (fullN n) := net_of (by rw [full_len]; exact h) fun v l e => by
  have hv : v < n := by
    have := (List.getElem?_eq_some_iff.mp e).1
    rwa [full_len] at this
  rw [full_get hv] at e
  cases e
  exact rI_up v
def wideN (k : Nat) : List (List Int) := List.replicate k [] ++ [rI 0 k]
theorem wide_len (k : Nat) : (wideN k).length = k + 1 := by simp [wideN]
theorem wide_get {k v : Nat} (h : v < k) : (wideN k)[v]? = some [] := by
  unfold wideN
  rw [List.getElem?_append_left (by simpa using h), List.getElem?_replicate, if_pos h]
theorem wide_net {k : Nat} (h : k < 40) : Net (wideN k) := net_of (by rw [wide_len]; omega) fun v l e => by
  have hv : v < k + 1 := by
    have := (List.getElem?_eq_some_iff.mp e).1
    rwa [wide_len] at this
  by_cases q : v < k
  · rw [wide_get q] at e
    cases e
    trivial
  · obtain rfl : v = k := by omega
    have : (wideN v)[v]? = some (rI 0 v) := by simp [wideN]
    rw [this] at e
    cases e
    exact rI_up v
def rimN (few : Nat) : List (List Int) := fullN 28 ++ [rI 0 few]
theorem rim_len (few : Nat) : (rimN few).length = 29 := by simp [rimN, full_len]
theorem rim_get {few v : Nat} (h : v < 28) : (rimN few)[v]? = some (rI 0 v) := by
  unfold rimN
  rw [List.getElem?_append_left (by rw [full_len]; exact h), full_get h]
theorem rim_last (few : Nat) : (rimN few)[28]? = some (rI 0 few) := by
  unfold rimN
  rw [List.getElem?_append_right (by rw [full_len]; omega), full_len]
  rfl
theorem rim_net {few : Nat} (h : few ≤ 28) : Net (rimN few) := net_of (by rw [rim_len]; omega) fun v l e => by
  have hv : v < 29 := by
    have := (List.getElem?_eq_some_iff.mp e).1
    rwa [rim_len] at this
  by_cases q : v < 28
  · rw [rim_get q] at e
    cases e
    exact rI_up v
  · obtain rfl : v = 28 := by omega
    rw [rim_last] at e
    cases e
    exact sub_up (List.Sublist.refl _) (by omega)
theorem at_of {N : List (List Int)} {v : Nat} {l : List Int} (h : N[v]? = some l) : atN N v = l := by
  unfold atN
  rw [h]
  rfl
/-! two lots far apart -/
theorem wide_none {k : Nat} (hk : 1 ≤ k) (h : k < 40) : morF (wideN k) [0, ((k - 1 : Nat) : Int)] = [] := by
  have hN := wide_net h
  have hL : ∀ x ∈ [(0 : Int), ((k - 1 : Nat) : Int)], InN (wideN k) x := fun x hx => by
    simp only [List.mem_cons, List.not_mem_nil, or_false] at hx
    have := wide_len k
    rcases hx with rfl | rfl <;> exact ⟨by omega, by omega⟩
  have lone : ∀ x, Cl (wideN k) [0, ((k - 1 : Nat) : Int)] x → 0 ≤ x ∧ x < k := fun x c => by
    induction c with
    | base hx =>
      simp only [List.mem_cons, List.not_mem_nil, or_false] at hx
      rcases hx with rfl | rfl <;> exact ⟨by omega, by omega⟩
    | step _ hx ih =>
      rw [at_of (wide_get (k := k) (by omega))] at hx
      cases hx
  refine List.eq_nil_iff_forall_not_mem.mpr fun p hp => ?_
  obtain ⟨h1, v, hv, h2, h3⟩ := (mem_mor hN hL).mp hp
  have hr := lone v hv
  unfold famOf at h2 h3
  rw [at_of (wide_get (k := k) (by omega))] at h2 h3
  simp at h2 h3
  omega
/-! the rim -/
def rimE (few : Nat) : List (Int × Int) := ((rI 0 28).flatMap fun b => (rI 0 b.toNat).map fun a => (a, b)) ++ (rI 0 few).map fun u => (u, 28)
theorem mem_rimE {few : Nat} {p : Int × Int} : p ∈ rimE few ↔ (0 ≤ p.1 ∧ p.1 < p.2 ∧ p.2 < 28) ∨ (0 ≤ p.1 ∧ p.1 < few ∧ p.2 = 28) := by
  obtain ⟨x, y⟩ := p
  unfold rimE
  simp only [List.mem_append, List.mem_flatMap, List.mem_map, mem_rI, Prod.mk.injEq]
  constructor
  · rintro (⟨b, hb, a, ha, rfl, rfl⟩ | ⟨u, hu, rfl, rfl⟩)
    · left; omega
    · right; omega
  · rintro (h | h)
    · exact .inl ⟨y, by omega, x, by omega, rfl, rfl⟩
    · exact .inr ⟨x, by omega, rfl, by omega⟩
theorem mor_nd (N : List (List Int)) (lot : List Int) : (morF N lot).Nodup := (mor_lt N lot).imp fun h z => by
  subst z
  rw [ltP_iff] at h
  omega
theorem rim_count {few : Nat} (h : few = 22 ∨ few = 23 ∨ few = 24) : (morF (rimN few) [27, 28]).length = 378 + few := by
  have hN := rim_net (few := few) (by omega)
  have hlen := rim_len few
  have hL : ∀ x ∈ [(27 : Int), 28], InN (rimN few) x := fun x hx => by
    simp only [List.mem_cons, List.not_mem_nil, or_false] at hx
    rcases hx with rfl | rfl <;> exact ⟨by omega, by omega⟩
  have mem : ∀ p, p ∈ morF (rimN few) [27, 28] ↔ p ∈ rimE few := fun p => by
    rw [mem_mor hN hL, mem_rimE]
    have fam : ∀ v : Int, 0 ≤ v → v < 28 → ∀ x, x ∈ famOf (rimN few) v ↔ 0 ≤ x ∧ x ≤ v := fun v h0 h1 x => by
      unfold famOf
      rw [at_of (rim_get (few := few) (v := v.toNat) (by omega))]
      simp only [List.mem_append, mem_rI, List.mem_singleton]
      omega
    have fam2 : ∀ x, x ∈ famOf (rimN few) 28 ↔ (0 ≤ x ∧ x < few) ∨ x = 28 := fun x => by
      unfold famOf
      rw [show (28 : Int).toNat = 28 from rfl, at_of (rim_last few)]
      simp only [List.mem_append, mem_rI, List.mem_singleton]
      omega
    constructor
    · rintro ⟨h1, v, hv, h2, h3⟩
      have hr := cl_in hN hL hv
      have := hr.1
      have := hr.2
      by_cases q : v < 28
      · rw [fam v hr.1 q] at h2 h3
        left; omega
      · obtain rfl : v = 28 := by omega
        rw [fam2] at h2 h3
        omega
    · rintro (⟨h1, h2, h3⟩ | ⟨h1, h2, h3⟩)
      · refine ⟨h2, 27, .base (by simp), ?_, ?_⟩
        · rw [fam 27 (by omega) (by omega)]; omega
        · rw [fam 27 (by omega) (by omega)]; omega
      · refine ⟨by omega, 28, .base (by simp), ?_, ?_⟩
        · rw [fam2]; omega
        · rw [fam2]; omega
  have ndE : (rimE few).Nodup := by
    rcases h with rfl | rfl | rfl <;> decide +kernel
  have := ((List.perm_ext_iff_of_nodup (mor_nd _ _) ndE).mpr mem).length_eq
  rw [this]
  rcases h with rfl | rfl | rfl <;> decide +kernel
end NL
end
section
set_option Elab.async false
set_option linter.all false
set_option maxRecDepth 100000
set_option maxHeartbeats 2000000
/-! Plain: great nets walked. -/
namespace NL
open PySem PySem.Spec PyProof.Rows L2

/-! the walk -/
theorem mul_t (st : Store) (x : PyData) {k : Nat} (h : 2 ≤ k) (h2 : k ≤ 1000) : fMul st (.d (.tuple [x])) (.d (.int (k : Int))) = some (.d (.tuple (List.replicate k x))) := by
  have e : (List.replicate k [x]).flatten = List.replicate k x := by
    induction k with
    | zero => rfl
    | succ k ih =>
      clear ih h h2
      induction k with
      | zero => rfl
      | succ k ih => rw [List.replicate_succ, List.flatten_cons, ih]; rfl
  simp only [fMul, oneOf, mulI, onI, repL, ls, vw, repT]
  rw [if_pos ⟨by simp, by omega, by omega, by simp⟩, Int.toNat_natCast, e]
theorem full_e {e : Env} {st : Store} {X : FA} {n : Nat} (h9 : 9 < e.length) (hX : X e st = .ok [.d (.int (n : Int))] st) (hn : n ≤ 64) : eCB gTuple (aCons (frzF (nLc (sRg1 X) (gNm 9) tYes' (eTRg (rg1 (eVar 9))) [9])) aNil) e st = .ok (.d (netD (fullN n))) st := by
  have e1 := nlc_fm (src := sRg1 X) (tg := gNm 9) (tt := tYes') (fe := eTRg (rg1 (eVar 9))) (own := [9]) (l := rgF 0 n) (a := e) (st := st) (fun x => match x with
    | .d (.int v) => some (lotD (rI 0 v.toNat))
    | _ => none) (srg1_ok hX (by omega)) (fun x hx => by
      obtain ⟨j, _, hj, rfl⟩ := mem_rgF hx
      have e2 : eTRg (rg1 (eVar 9)) (e.set 9 (some (.d (.int (j : Int))))) st = .ok (.d (lotD (rI 0 j))) st := by
        rw [etrg_ok (i := 0) (j := j) (s := st) ?z (by omega) (by omega), rgD_rI]
        case z => simp [h9]
        rfl
      simp [lcTurn, wipeA, quiet, e2]) (by rw [len_rgF]; omega)
  rw [rgF_rI, List.filterMap_map] at e1
  have e3 : (rI 0 n).filterMap ((fun x => match x with
    | .d (.int v) => some (lotD (rI 0 v.toNat))
    | _ => none) ∘ fun v => AV.d (.int v)) = (fullN n).map lotD := by
    unfold fullN
    rw [List.map_map]
    exact List.filterMap_eq_map ▸ rfl
  rw [e3] at e1
  simp [e1, netD]
end NL
end
section
set_option Elab.async false
set_option linter.all false
set_option maxRecDepth 100000
set_option maxHeartbeats 2000000
/-! Plain: great nets right. -/
namespace NL
open PySem PySem.Spec PyProof.Rows L2

theorem cat_l (st : Store) (xs ys : List PyData) (h : xs.length + ys.length ≤ 16777216) : fAdd st (.d (.list xs)) (.d (.list ys)) = some (.d (.list (xs ++ ys))) := by
  simp only [fAdd, oneOf, onI, catT, catS, catL, ls, vw, size_lit, if_pos h]
theorem etrg_e {X : FE} {e : Env} {st : Store} {n : Nat} (hX : X e st = .ok (.d (.int (n : Int))) st) (hn : n ≤ 64) : eTRg (rg1 X) e st = .ok (.d (lotD (rI 0 n))) st := by
  rw [etrg_ok (i := 0) (j := n) (s := st) ?z (by omega) (by omega), rgD_rI]
  case z => simp [hX]
  rfl
theorem empty_net {k : Nat} (h : k ≤ 40) : netForm (.tuple (List.replicate k (.tuple []))) = none := by
  have hN : Net (List.replicate k []) := net_of (by simpa using h) fun v l e => by
    rw [List.getElem?_replicate] at e
    split at e
    · cases e; trivial
    · cases e
  have := netForm_none.mpr ⟨_, rfl, hN⟩
  simpa [netD, lotD] using this
theorem s_great_net {m : Nat} (h : 16 ≤ m) (g : Bool) {n : Nat} {J : Cell} {rest : Store} (hJ : Jr n J) (hn : n + 10 ≤ 2 ^ 250) : ∃ J', D g "_law_nw6_great_net_right" m [.r 0] (J :: rest) = .ok (.d (.bool true)) (J' :: rest) ∧ Jr (n + 10) J' := by
  obtain ⟨q, rfl⟩ := up2 (m := m) (by omega)
  obtain ⟨x, J1, e1, hx, hJ1⟩ := s_one (m := q + 1) (by omega) g hJ (by omega) rest (xs := [.int 28, .int 29, .int 30, .int 40]) (by simp) (by simp)
  have hx' : ∃ k : Nat, x = .int ((k + 1 : Nat) : Int) ∧ 27 ≤ k ∧ k ≤ 39 := by
    simp only [List.mem_cons, List.not_mem_nil, or_false] at hx
    rcases hx with rfl | rfl | rfl | rfl
    · exact ⟨27, rfl, by omega, by omega⟩
    · exact ⟨28, rfl, by omega, by omega⟩
    · exact ⟨29, rfl, by omega, by omega⟩
    · exact ⟨39, rfl, by omega, by omega⟩
  obtain ⟨k, rfl, k1, k2⟩ := hx'
  obtain ⟨y, J2, e2, hy, hJ2⟩ := s_one (m := q + 1) (by omega) g hJ1 (by omega) rest (xs := [.int 22, .int 22, .int 23, .int 24]) (by simp) (by simp)
  have hy' : ∃ few : Nat, y = .int (few : Int) ∧ (few = 22 ∨ few = 23 ∨ few = 24) := by
    simp only [List.mem_cons, List.not_mem_nil, or_false] at hy
    rcases hy with rfl | rfl | rfl | rfl
    · exact ⟨22, rfl, by omega⟩
    · exact ⟨22, rfl, by omega⟩
    · exact ⟨23, rfl, by omega⟩
    · exact ⟨24, rfl, by omega⟩
  obtain ⟨few, rfl, hfew⟩ := hy'
  refine ⟨J2, ?_, hJ2.up (by omega)⟩
  have s0 : 0 ≤ sizeLine := Nat.zero_le _
  have s1 : 1 ≤ sizeLine := by rw [size_lit]; omega
  have s2 := two_size
  have s3 : 3 ≤ sizeLine := by rw [size_lit]; omega
  have s4 : 4 ≤ sizeLine := by rw [size_lit]; omega
  have ek : ((k + 1 : Nat) : Int) - 1 = (k : Int) := by omega
  have ek2 : ((k + 1 : Nat) : Int) - 2 = ((k - 1 : Nat) : Int) := by omega
  have nF := full_net (n := k + 1) (by omega)
  have nW := wide_net (k := k) (by omega)
  have nR := rim_net (few := few) (by omega)
  have lF := full_len (k + 1)
  have lW := wide_len k
  have lR := rim_len few
  have uF : UpF (fullN (k + 1)).length (-1) [(k : Int)] := ⟨⟨by omega, by rw [lF]; omega⟩, trivial⟩
  have uW : UpF (wideN k).length (-1) [0, (k : Int)] := ⟨⟨by omega, by rw [lW]; omega⟩, ⟨by omega, by rw [lW]; omega⟩, trivial⟩
  have uV : UpF (wideN k).length (-1) [0, ((k - 1 : Nat) : Int)] := ⟨⟨by omega, by rw [lW]; omega⟩, ⟨by omega, by rw [lW]; omega⟩, trivial⟩
  have uR : UpF (rimN few).length (-1) [27, 28] := ⟨⟨by omega, by rw [lR]; omega⟩, ⟨by omega, by rw [lR]; omega⟩, trivial⟩
  have mF := fun st => hd_moral (m := q + 1) (by omega) st nF uF
  have mW := fun st => hd_moral (m := q + 1) (by omega) st nW uW
  have mV := fun st => hd_moral (m := q + 1) (by omega) st nW uV
  have mR := fun st => hd_moral (m := q + 1) (by omega) st nR uR
  have wF := fun st => s_law_moral (m := q + 1) (by omega) g st nF uF
  have wW := fun st => s_law_moral (m := q + 1) (by omega) g st nW uW
  have lkR := fun st => s_law_links (m := q + 1) (by omega) g st nR uR
  have eV : moralD (wideN k) [0, ((k - 1 : Nat) : Int)] = .tuple [.str "told", .tuple [.int ((k + 1 : Nat) : Int), .tuple []]] := by
    unfold moralD
    rw [wide_none (by omega) (by omega), if_pos (by simp), lW]
    rfl
  have sR := fun st => s_same (g := g) (st := st) (m := q + 1) (nice_moral (rimN few) [27, 28]) (by omega)
  have mu := fun (st : Store) (k : Nat) (h : 2 ≤ k) (h2 : k ≤ 1000) => mul_t st (.tuple []) h h2
  have mu41 : ∀ st, fMul st (.d (.tuple [.tuple []])) (.d (.int 41)) = some (.d (.tuple (List.replicate 41 (.tuple [])))) := fun st => mu st 41 (by omega) (by omega)
  have mu40 : ∀ st, fMul st (.d (.tuple [.tuple []])) (.d (.int 40)) = some (.d (.tuple (List.replicate 40 (.tuple [])))) := fun st => mu st 40 (by omega) (by omega)
  have nE : ∀ j : Nat, j ≤ 2000 → Nice 2 (.tuple (List.replicate j (.tuple []))) = true := fun j hj => nice_t.mpr ⟨by simpa using hj, fun x hx => by rw [(List.mem_replicate.mp hx).2]; rfl⟩
  have h41 := fun st => hd_net (m := q + 1) (by omega) st (nE 41 (by omega))
  rw [show netForm (.tuple (List.replicate 41 (.tuple []))) = some (("BadNet" : Str), PyData.int (-1)) by simp [netForm]] at h41
  have h40 := fun st => hd_net (m := q + 1) (by omega) st (nE 40 (by omega))
  rw [empty_net (by omega)] at h40
  simp only [heardW] at h41 h40
  -- what is made
  generalize hA : moralD (fullN (k + 1)) [(k : Int)] = A at *
  generalize hB : moralD (wideN k) [0, (k : Int)] = B at *
  have niA : Nice 4 A = true := hA ▸ nice_moral _ _
  have niB : Nice 4 B = true := hB ▸ nice_moral _ _
  let C : PyData := .tuple [.str "told", .tuple [.int ((k + 1 : Nat) : Int), .tuple []]]
  let F41 : PyData := .tuple [.str "BadNet", .int (-1)]
  let F40 : PyData := .tuple [.str "told", .tuple (List.replicate 40 (.tuple []))]
  let due : PyData := if few = 22 then .tuple [.str "told", .tuple [.int 29, linksD (morF (rimN few) [27, 28])]] else .tuple [.str "TooMany", .int (378 + (few : Int))]
  have eD : moralD (rimN few) [27, 28] = due := by
    unfold moralD
    rw [rim_count hfew, lR]
    show _ = if few = 22 then _ else _
    by_cases z : few = 22
    · rw [if_pos z, if_pos (by omega)]
      rfl
    · rw [if_neg z, if_neg (by omega)]
      congr 3
  rw [eD] at mR sR
  rw [eV] at mV
  let St : Store := J2 :: rest
  have t1 := ty_end St [A]
  have t2 := ty_end St [A, B]
  have t3 := ty_end St [A, B, C]
  have t4 := ty_end St [A, B, C, F41]
  have p1 := app_end St (xs := [A]) (y := B) (by simp)
  have p2 := app_end St (xs := [A, B]) (y := C) (by simp)
  have p3 := app_end St (xs := [A, B, C]) (y := F41) (by simp)
  have p4 := app_end St (xs := [A, B, C, F41]) (y := F40) (by simp)
  have same := same_rows (m := q + 1) (d := 4) (by omega) (g := g) (J := St) (xs := [A, B, C, F41, F40]) (fun x hx => by
    simp only [List.mem_cons, List.not_mem_nil, or_false] at hx
    rcases hx with rfl | rfl | rfl | rfl | rfl
    · exact niA
    · exact niB
    · exact nice_up (d := 3) (nice_two (nice_s _ _) (nice_two (d := 1) (nice_i _ _) rfl)) (by omega)
    · exact nice_two (nice_s _ _) (nice_i _ _)
    · exact nice_up (nice_told (nE 40 (by omega))) (by omega)) (by simp)
  have c1 := fun st => cat_l st [A, B, C] [F41, F40] (by simp)
  let E (a b : Option AV) : Env := [some (.r 0), some (.d (.int ((k + 1 : Nat) : Int))), some (.d (netD (fullN (k + 1)))), some (.d (netD (wideN k))), some (.d (.int (few : Int))), some (.d (netD (rimN few))), some (.d due), a, b, none]
  have o1 : ∀ a b, (E a b)[1]? = some (some (.d (.int ((k + 1 : Nat) : Int)))) := fun _ _ => rfl
  have o2 : ∀ a b, (E a b)[2]? = some (some (.d (netD (fullN (k + 1))))) := fun _ _ => rfl
  have o3 : ∀ a b, (E a b)[3]? = some (some (.d (netD (wideN k)))) := fun _ _ => rfl
  have o5 : ∀ a b, (E a b)[5]? = some (some (.d (netD (rimN few)))) := fun _ _ => rfl
  have o6 : ∀ a b, (E a b)[6]? = some (some (.d due)) := fun _ _ => rfl
  have o7 : ∀ a b, (E a b)[7]? = some a := fun _ _ => rfl
  have o8 : ∀ a b, (E a b)[8]? = some b := fun _ _ => rfl
  have w7 : ∀ a b c, (E a b).set 7 (some c) = E (some c) b := fun _ _ _ => rfl
  have w8 : ∀ a b c, (E a b).set 8 (some c) = E a (some c) := fun _ _ _ => rfl
  have l1 : PyData.tuple [.int (k : Int)] = lotD [(k : Int)] := rfl
  have l2 : PyData.tuple [.int 0, .int (k : Int)] = lotD [0, (k : Int)] := rfl
  have l3 : PyData.tuple [.int 0, .int ((k - 1 : Nat) : Int)] = lotD [0, ((k - 1 : Nat) : Int)] := rfl
  have l4 : PyData.tuple [.int 27, .int 28] = lotD [27, 28] := rfl
  rw [u_law_nw6_great_net_right, run_e]
  rw [show startA ["jar", "many", "net", "wide", "few", "rim", "due", "answers", "owed", "v"] [.r 0] = [some (.r 0), none, none, none, none, none, none, none, none, none] from rfl]
  rw [seq_nx (asg_nx (v := .d (.int ((k + 1 : Nat) : Int))) (s := J1 :: rest) (by simp [s4, e1]))]
  simp only [List.set_cons_succ, List.set_cons_zero]
  rw [seq_nx (asg_nx (full_e (n := k + 1) (by simp) (by simp) (by omega)))]
  simp only [List.set_cons_succ, List.set_cons_zero]
  rw [seq_nx (asg_nx (v := .d (netD (wideN k))) (s := J1 :: rest) ?q3)]
  case q3 =>
    have r := fun (e : Env) (h : e[1]? = some (some (.d (.int ((k + 1 : Nat) : Int))))) => etrg_e (X := eOp fSub (eVar 1) (eC (.int 1))) (e := e) (st := J1 :: rest) (n := k) (by simp [h]) (by omega)
    have r1 := r [some (.r 0), some (.d (.int ((k + 1 : Nat) : Int))), some (.d (netD (fullN (k + 1)))), none, none, none, none, none, none, none] rfl
    have ad : ∀ s, fAdd s (.d (.tuple (List.replicate k (.tuple [])))) (.d (.tuple [lotD (rI 0 k)])) = some (.d (netD (wideN k))) := fun s => by
      rw [add_t _ _ _ (by simp; omega)]
      simp [netD, wideN, lotD]
    have mk : ∀ s, fMul s (.d (.tuple [.tuple []])) (.d (.int ((k : Nat) : Int))) = some (.d (.tuple (List.replicate k (.tuple [])))) := fun s => mu s k (by omega) (by omega)
    rw [a_op, a_op]
    simp only [a_tup, a_cons, a_nil, Out.bind_ok, dats_cons, dats_nil, Option.map_some, List.length_nil, List.length_cons, s0, s1, if_true, a_op, a_var, a_c, List.getElem?_cons_succ, List.getElem?_cons_zero, sub_i, lift_some, ek, mk, r1, ad, Nat.zero_add]
  simp only [List.set_cons_succ, List.set_cons_zero]
  rw [seq_nx (asg_nx (v := .d (.int (few : Int))) (s := J2 :: rest) (by simp [s4, e2]))]
  simp only [List.set_cons_succ, List.set_cons_zero]
  rw [seq_nx (asg_nx (v := .d (netD (rimN few))) (s := J2 :: rest) ?q5)]
  case q5 =>
    have f1 := full_e (e := [some (.r 0), some (.d (.int ((k + 1 : Nat) : Int))), some (.d (netD (fullN (k + 1)))), some (.d (netD (wideN k))), some (.d (.int (few : Int))), none, none, none, none, none]) (st := J2 :: rest) (X := aCons (eC (.int 28)) aNil) (n := 28) (by simp) (by simp) (by omega)
    have r1 := etrg_e (X := eVar 4) (e := [some (.r 0), some (.d (.int ((k + 1 : Nat) : Int))), some (.d (netD (fullN (k + 1)))), some (.d (netD (wideN k))), some (.d (.int (few : Int))), none, none, none, none, none]) (st := J2 :: rest) (n := few) (by simp) (by omega)
    have ad : ∀ s, fAdd s (.d (netD (fullN 28))) (.d (.tuple [lotD (rI 0 few)])) = some (.d (netD (rimN few))) := fun s => by
      unfold netD
      rw [add_t _ _ _ (by simp [full_len])]
      simp [rimN]
    rw [a_op, f1, Out.bind_ok, a_tup, a_cons, r1]
    simp [s1, ad]
  simp only [List.set_cons_succ, List.set_cons_zero]
  rw [seq_nx (asg_nx (v := .d due) (s := J2 :: rest) ?q6)]
  case q6 =>
    by_cases z : few = 22
    · have z' : ((few : Nat) : Int) = 22 := by omega
      have dd : due = .tuple [.str "told", .tuple [.int 29, linksD (morF (rimN few) [27, 28])]] := if_pos z
      rw [dd]
      simp [z', s2, l4, lkR]
    · have z' : ¬ ((few : Nat) : Int) = 22 := by omega
      have dd : due = .tuple [.str "TooMany", .int (378 + (few : Int))] := if_neg z
      rw [dd]
      simp [z', s2]
  simp only [List.set_cons_succ, List.set_cons_zero]
  rw [show [some (AV.r 0), some (.d (.int ((k + 1 : Nat) : Int))), some (.d (netD (fullN (k + 1)))), some (.d (netD (wideN k))), some (.d (.int (few : Int))), some (.d (netD (rimN few))), some (.d due), none, none, none] = E none none from rfl]
  generalize hE : E = EE at *
  rw [seq_nx (a' := EE none none) (s := St) ?q7]
  case q7 =>
    simp [o5, o6, s2, l4, mR, sR, St]
  rw [seq_nx (a' := EE (some (.r St.length)) none) (s := St ++ [.l [A]]) ?q8]
  case q8 =>
    rw [s_asg]
    simp only [a_thaw, a_lst, a_cons, a_hrd, a_call, a_ofn, a_tup, a_op, a_var, o1, o2, a_c, a_nil, Out.bind_ok, sub_i, lift_some, ek, dats_cons, dats_nil, Option.map_some, List.length_cons, List.length_nil, Nat.zero_add, s1, if_true, l1, mF, g_nm, w7]
  rw [seq_nx (a' := EE (some (.r St.length)) none) (s := St ++ [.l [A, B]]) ?q9]
  case q9 =>
    rw [s_drop, a_m, a_var, o7]
    simp only [Out.bind_ok, t1, if_true, a_cons, a_hrd, a_call, a_ofn, a_tup, a_op, a_var, o1, o3, a_c, a_nil, sub_i, lift_some, ek, dats_cons, dats_nil, Option.map_some, List.length_cons, List.length_nil, Nat.zero_add, s2, l2, mW]
    rw [p1]
    rfl
  rw [seq_nx (a' := EE (some (.r St.length)) none) (s := St ++ [.l [A, B, C]]) ?q10]
  case q10 =>
    rw [s_drop, a_m, a_var, o7]
    simp only [Out.bind_ok, t2, if_true, a_cons, a_hrd, a_call, a_ofn, a_tup, a_op, a_var, o1, o3, a_c, a_nil, sub_i, lift_some, ek2, dats_cons, dats_nil, Option.map_some, List.length_cons, List.length_nil, Nat.zero_add, s2, l3, mV]
    rw [p2]
    rfl
  rw [seq_nx (a' := EE (some (.r St.length)) none) (s := St ++ [.l [A, B, C, F41]]) ?q11]
  case q11 =>
    rw [s_drop, a_m, a_var, o7]
    simp only [Out.bind_ok, t3, if_true, a_cons, a_hrd, a_call, a_ofn, a_tup, a_op, a_var, a_c, a_nil, lift_some, dats_cons, dats_nil, Option.map_some, List.length_cons, List.length_nil, Nat.zero_add, s1, s0, mu41, h41]
    rw [p3]
    rfl
  rw [seq_nx (a' := EE (some (.r St.length)) none) (s := St ++ [.l [A, B, C, F41, F40]]) ?q12]
  case q12 =>
    rw [s_drop, a_m, a_var, o7]
    simp only [Out.bind_ok, t4, if_true, a_cons, a_hrd, a_call, a_ofn, a_tup, a_op, a_var, a_c, a_nil, lift_some, dats_cons, dats_nil, Option.map_some, List.length_cons, List.length_nil, Nat.zero_add, s1, s0, mu40, h40]
    rw [p4]
    rfl
  generalize hS : St ++ [Cell.l [A, B, C, F41, F40]] = S at *
  rw [seq_nx (a' := EE (some (.r St.length)) (some (.d (.list [A, B, C])))) (s := S) ?q13]
  case q13 =>
    rw [s_asg]
    simp only [a_frz, a_lst, a_cons, a_call, a_ofn, a_tup, a_op, a_var, o1, o2, o3, a_c, a_nil, Out.bind_ok, sub_i, lift_some, ek, dats_cons, dats_nil, Option.map_some, List.length_cons, List.length_nil, Nat.zero_add, s0, s1, s2, s3, if_true, l1, l2, wF, wW, g_nm, w8, frz_l]
    rfl
  have fin : sRet (eCall (ofN 2 (D g "_law_ns_same" (q + 1))) (aCons (eVar 7) (aCons (eOp fAdd (eVar 8) (frzF (nLst (aCons (eTup (aCons (eC (.str "BadNet")) (aCons (eNeg (eC (.int 1))) aNil))) (aCons (eTup (aCons (eC (.str "told")) (aCons (eOp fMul (eTup (aCons (eTup aNil) aNil)) (eC (.int 40))) aNil))) aNil))))) aNil))) (EE (some (.r St.length)) (some (.d (.list [A, B, C])))) S = .ok (.rt (.d (.bool true))) S := by
    simp only [s_ret, a_call, a_ofn, a_cons, a_var, o7, o8, a_op, a_frz, a_lst, a_tup, a_c, a_neg, a_nil, Out.bind_ok, dats_cons, dats_nil, Option.map_some, List.length_cons, List.length_nil, Nat.zero_add, s0, s1, s2, if_true, lift_some, neg_i, mu40, frz_l]
    have c1' := c1 S
    have c1' : fAdd S (.d (.list [A, B, C])) (.d (.list [.tuple [.str "BadNet", .int (-1)], .tuple [.str "told", .tuple (List.replicate 40 (.tuple []))]])) = some (.d (.list ([A, B, C] ++ [F41, F40]))) := c1'
    rw [c1']
    simp only [lift_some, Out.bind_ok, List.cons_append, List.nil_append]
    rw [same]
    rfl
  rw [fin, end_d, ← hS]
  simp [St]
end NL
end
section
set_option Elab.async false
set_option linter.all false
set_option maxRecDepth 100000
set_option maxHeartbeats 2000000
/-! Plain: great webs right. -/
namespace NL
open PySem PySem.Spec PyProof.Rows L2

def rowL (n i : Nat) : List (Int × Int) := (rI (i + 1) (n - (i + 1))).map fun b => ((i : Int), b)
def allF (n : Nat) : Nat → Nat → List (Int × Int)
  | _, 0 => []
  | i, k + 1 => rowL n i ++ allF n (i + 1) k
theorem mem_rowL {n i : Nat} {p : Int × Int} : p ∈ rowL n i ↔ p.1 = i ∧ (i : Int) < p.2 ∧ p.2 < n := by
  obtain ⟨x, y⟩ := p
  simp only [rowL, List.mem_map, mem_rI, Prod.mk.injEq]
  constructor
  · rintro ⟨b, hb, rfl, rfl⟩
    omega
  · rintro ⟨h1, h2, h3⟩
    exact ⟨y, by omega, h1.symm, rfl⟩
theorem mem_allF {n : Nat} {p : Int × Int} : ∀ {k i : Nat}, p ∈ allF n i k → (i : Int) ≤ p.1 ∧ p.1 < p.2 ∧ p.2 < n
  | 0, i, h => by cases h
  | k + 1, i, h => by
    rcases List.mem_append.mp h with h | h
    · have := mem_rowL.mp h
      omega
    · have := mem_allF h
      omega
theorem allF_lt {n : Nat} : ∀ (k i : Nat), (allF n i k).Pairwise (fun p q => ltP p q = true)
  | 0, _ => .nil
  | k + 1, i => by
    rw [allF, List.pairwise_append]
    refine ⟨?_, allF_lt k (i + 1), fun p hp q hq => ?_⟩
    · rw [rowL, List.pairwise_map]
      exact List.Pairwise.imp (fun {a b} (h : a < b) => (ltP_iff.mpr (.inr ⟨rfl, h⟩) : ltP ((i : Int), a) ((i : Int), b) = true)) (rI_lt _ _)
    · have := mem_rowL.mp hp
      have := mem_allF hq
      exact ltP_iff.mpr (by omega)
theorem nd_lt {l : List (Int × Int)} (h : l.Pairwise (fun p q => ltP p q = true)) : l.Nodup := h.imp fun h z => by
  subst z
  rw [ltP_iff] at h
  omega
theorem allF_len : ∀ n : Nat, n = 60 ∨ n = 29 ∨ n = 41 → 401 ≤ (allF n 0 n).length ∧ (allF n 0 n).length ≤ 2000 := by
  rintro n (rfl | rfl | rfl) <;> decide +kernel
theorem perm_pair {l : List (Int × Int)} {ys : List PyData} (h : ys.Perm (l.map pairD)) : ∃ zs : List (Int × Int), ys = zs.map pairD ∧ zs.Perm l := by
  let f : PyData → Int × Int := fun d => match d with
    | .tuple [.int i, .int j] => (i, j)
    | _ => (0, 0)
  refine ⟨ys.map f, ?_, ?_⟩
  · rw [List.map_map]
    conv => lhs; rw [← List.map_id ys]
    apply List.map_congr_left
    intro y hy
    obtain ⟨i, _, rfl⟩ := List.mem_map.mp (h.subset hy)
    rfl
  · have := h.map f
    rw [List.map_map] at this
    have e : (f ∘ pairD) = id := rfl
    rw [e, List.map_id] at this
    exact this
theorem gw_loop {m : Nat} {g : Bool} {nn : Nat} {rest : Store} {J : Cell} {x2 x3 x4 x5 x8 : Option AV} (hn : nn ≤ 64) : ∀ (k i : Nat) (L : List (Int × Int)) (x1 : Option AV), i + k ≤ nn → L.length + 64 * k ≤ 16777216 →
    ∃ y1, forL (gNm 1) (b0_law_nw6_great_web_right g m) (rgF i k) [some (.r 0), x1, x2, x3, x4, x5, some (.d (.int (nn : Int))), some (.r (rest.length + 1)), x8] (J :: (rest ++ [.l (L.map pairD)])) = .ok (.nx [some (.r 0), y1, x2, x3, x4, x5, some (.d (.int (nn : Int))), some (.r (rest.length + 1)), x8]) (J :: (rest ++ [.l ((L ++ allF nn i k).map pairD)]))
  | 0, i, L, x1, _, _ => ⟨x1, by rw [allF, List.append_nil]; rfl⟩
  | k + 1, i, L, x1, hi, hl => by
    have hr : (rowL nn i).length ≤ 64 := by rw [rowL, List.length_map, len_rI]; omega
    obtain ⟨y1, ih⟩ := gw_loop (g := g) (m := m) (rest := rest) (J := J) (x2 := x2) (x3 := x3) (x4 := x4) (x5 := x5) (x8 := x8) hn k (i + 1) (L ++ rowL nn i) (some (.d (.int (i : Int)))) (by omega) (by rw [List.length_append]; omega)
    refine ⟨y1, ?_⟩
    have e1 := nlc_fm (src := sRg2 (aCons (eOp fAdd (eVar 1) (eC (.int 1))) (aCons (eVar 6) aNil))) (tg := gNm 8) (tt := tYes') (fe := eTup (aCons (eVar 1) (aCons (eVar 8) aNil))) (own := [8]) (l := rgF (i + 1) (nn - (i + 1))) (a := [some (.r 0), some (.d (.int (i : Int))), x2, x3, x4, x5, some (.d (.int (nn : Int))), some (.r (rest.length + 1)), x8]) (st := J :: (rest ++ [.l (L.map pairD)])) (fun x => match x with
      | .d (.int v) => some (pairD ((i : Int), v))
      | _ => none) (srg2_ok (by simp) (by omega) (by omega)) (fun x hx => by
        obtain ⟨j, _, _, rfl⟩ := mem_rgF hx
        simp [lcTurn, wipeA, quiet, two_size, pairD]) (by rw [len_rgF]; omega)
    rw [rgF_rI, List.filterMap_map] at e1
    have e3 : (rI (i + 1) (nn - (i + 1))).filterMap ((fun x => match x with
      | .d (.int v) => some (pairD ((i : Int), v))
      | _ => none) ∘ fun v => AV.d (.int v)) = (rowL nn i).map pairD := by
      unfold rowL
      rw [List.map_map]
      exact List.filterMap_eq_map ▸ rfl
    rw [e3] at e1
    rw [rgF]
    unfold forL
    simp only [g_nm, List.set_cons_succ, List.set_cons_zero]
    rw [xb0_law_nw6_great_web_right, s_drop, a_m, a_var]
    have hx := extend_at (J :: (rest ++ [.l (L.map pairD)])) (ys := (rowL nn i).map pairD) (h1 J rest (.l (L.map pairD))) (by simp; omega)
    rw [u1, ← List.map_append] at hx
    simp only [List.getElem?_cons_zero, List.getElem?_cons_succ, Out.bind_ok, ty_r (h1 J rest (.l (L.map pairD))), if_true, a_cons, a_frz, e1, frz_l, a_nil, hx]
    rw [allF, ← List.append_assoc]
    exact ih
theorem s_great_web {m : Nat} (h : 12 ≤ m) (g : Bool) {n : Nat} {J : Cell} {rest : Store} (hJ : Jr n J) (hn : n + 3000 ≤ 2 ^ 250) : ∃ J', D g "_law_nw6_great_web_right" m [.r 0] (J :: rest) = .ok (.d (.bool true)) (J' :: rest) ∧ Jr (n + 3000) J' := by
  obtain ⟨q, rfl⟩ := up2 (m := m) (by omega)
  obtain ⟨x, J1, e1, hx, hJ1⟩ := s_one (m := q + 1) (by omega) g hJ (by omega) rest (xs := [.int 60, .int 60, .int 29, .int 41]) (by simp) (by simp)
  have hx' : ∃ k : Nat, x = .int (k : Int) ∧ (k = 60 ∨ k = 29 ∨ k = 41) := by
    simp only [List.mem_cons, List.not_mem_nil, or_false] at hx
    rcases hx with rfl | rfl | rfl | rfl
    · exact ⟨60, rfl, by omega⟩
    · exact ⟨60, rfl, by omega⟩
    · exact ⟨29, rfl, by omega⟩
    · exact ⟨41, rfl, by omega⟩
  obtain ⟨k, rfl, hk⟩ := hx'
  obtain ⟨len1, len2⟩ := allF_len k hk
  obtain ⟨y1, loop⟩ := gw_loop (m := q + 1) (g := g) (rest := rest) (J := J1) (x2 := none) (x3 := none) (x4 := none) (x5 := none) (x8 := none) (nn := k) (by omega) k 0 [] none (by omega) (by simp; omega)
  rw [List.nil_append] at loop
  have lt0 := allF_lt (n := k) k 0
  have mem0 := fun (p : Int × Int) (hp : p ∈ allF k 0 k) => mem_allF hp
  generalize hL : allF k 0 k = L at len1 len2 loop lt0 mem0
  obtain ⟨ys, J2, e2, hJ2, hp⟩ := s_mixed (m := q + 1) (by omega) g hJ1 (rest := rest ++ [.l (L.map pairD)]) (x := .r (rest.length + 1)) (xs := L.map pairD) (lst_r (by simp)) (by rw [List.length_map]; omega) (by rw [List.length_map]; omega)
  rw [List.length_map] at hJ2
  obtain ⟨zs, rfl, hz⟩ := perm_pair hp
  have zlen : zs.length = L.length := hz.length_eq
  have cut1 : cutD (zs.map pairD) none (some 401) = (zs.take 401).map pairD := by
    by_cases q : 401 < zs.length
    · have := (cut_len (zs.map pairD) 401 (by simpa using q)).1
      rw [show ((401 : Nat) : Int) = 401 from rfl] at this
      rw [this, List.map_take]
    · have ez : zs.length = 401 := by omega
      unfold cutD
      rw [HT.sIx_none, show (401 : Int) = ((401 : Nat) : Int) from rfl, HT.sIx_nat]
      simp [ez]
  let S := sortP (zs.take 401)
  have nz : (zs.take 401).Nodup := ((hz.nodup_iff.mpr (nd_lt lt0)).sublist (List.take_sublist _ _))
  have hS : S.Pairwise (fun p q => ltP p q = true) := sortP_lt nz
  have lS : S.length = 401 := by
    show (sortP (zs.take 401)).length = 401
    unfold sortP
    rw [List.length_mergeSort, List.length_take]
    omega
  have rS : ∀ p ∈ S, 0 ≤ p.1 ∧ p.1 < p.2 ∧ p.2 ≤ (k : Int) - 1 := fun p hp => by
    have h1 := List.mem_of_mem_take (mem_sortP.mp hp)
    have := mem0 p (hz.subset h1)
    omega
  have cut2 : cutD (S.map pairD) none (some 400) = (S.take 400).map pairD := by
    have := (cut_len (S.map pairD) 400 (by rw [List.length_map]; omega)).1
    rw [show ((400 : Nat) : Int) = 400 from rfl] at this
    rw [this, List.map_take]
  have l4 : (S.take 400).length = 400 := by rw [List.length_take]; omega
  have ok4 : webForm (webD k (S.take 400)) = none := webForm_ok (by omega) (by omega) (hS.sublist (List.take_sublist _ _)) fun p hp => rS p (List.mem_of_mem_take hp)
  have kk : (0 : Int) ≤ k ∧ (k : Int) ≤ 60 := by omega
  have big : ∀ ds : List PyData, ds.length = 401 → webForm (.tuple [.int k, .tuple ds]) = some (("TooMany" : Str), PyData.int 401) := fun ds hd => by
    unfold webForm
    simp only
    rw [if_pos kk, if_pos (by omega), hd]
    rfl
  have nicek : ∀ ds : List PyData, ds.length ≤ 2000 → (∀ d ∈ ds, Nice 1 d = true) → Nice 3 (.tuple [.int k, .tuple ds]) = true := fun ds h1 h2 => nice_two (nice_i _ _) (nice_t.mpr ⟨h1, h2⟩)
  have np : ∀ T : List (Int × Int), ∀ d ∈ T.map pairD, Nice 1 d = true := fun T d hd => by
    obtain ⟨p, _, rfl⟩ := List.mem_map.mp hd
    exact nice_pair p 0
  have w1 := fun st => hd_web (m := q + 1) (by omega) st (nice_web (n := k) (L := S.take 400) (by omega))
  rw [ok4] at w1
  have w2 := fun st => hd_web (m := q + 1) (by omega) st (nicek (S.map pairD) (by rw [List.length_map]; omega) (np S))
  rw [big _ (by rw [List.length_map]; exact lS)] at w2
  have hodd : ((S.take 400).map pairD ++ [PyData.none]).length = 401 := by rw [List.length_append, List.length_map, l4]; rfl
  have w3 := fun st => hd_web (m := q + 1) (by omega) st (nicek ((S.take 400).map pairD ++ [PyData.none]) (by omega) (fun d hd => (List.mem_append.mp hd).elim (np _ d) fun z => by rw [List.mem_singleton.mp z]; rfl))
  rw [big _ hodd] at w3
  have w4 := fun st => hd_web (m := q + 1) (d := 1) (by omega) st (t := .tuple [.int 61, .none]) rfl
  rw [show webForm (.tuple [.int 61, .none]) = some (("BadWeb" : Str), PyData.int 0) by rfl] at w4
  simp only [heardW] at w1 w2 w3 w4
  let A1 : PyData := .tuple [.str "told", webD k (S.take 400)]
  let A2 : PyData := .tuple [.str "TooMany", .int 401]
  let A4 : PyData := .tuple [.str "BadWeb", .int 0]
  let St : Store := J2 :: (rest ++ [.l (L.map pairD)])
  have t1 := ty_end St [A1]
  have t2 := ty_end St [A1, A2]
  have t3 := ty_end St [A1, A2, A2]
  have p1 := app_end St (xs := [A1]) (y := A2) (by simp)
  have p2 := app_end St (xs := [A1, A2]) (y := A2) (by simp)
  have p3 := app_end St (xs := [A1, A2, A2]) (y := A4) (by simp)
  have same := same_rows (m := q + 1) (d := 4) (by omega) (g := g) (J := St) (xs := [A1, A2, A2, A4]) (fun x hx => by
    simp only [List.mem_cons, List.not_mem_nil, or_false] at hx
    rcases hx with rfl | rfl | rfl | rfl
    · exact nice_told (nice_web (by omega))
    · exact nice_two (nice_s _ _) (nice_i _ _)
    · exact nice_two (nice_s _ _) (nice_i _ _)
    · exact nice_two (nice_s _ _) (nice_i _ _)) (by simp)
  refine ⟨J2, ?_, hJ2.up (by omega)⟩
  have s0 : 0 ≤ sizeLine := Nat.zero_le _
  have s1 : 1 ≤ sizeLine := by rw [size_lit]; omega
  have s2 := two_size
  have s4 : 4 ≤ sizeLine := by rw [size_lit]; omega
  have fsl : ∀ s, fSl s (.d (.list (S.map pairD))) none (some 400) = some (.d (.list ((S.take 400).map pairD))) := fun s => by simp only [fSl, vw, cut2]
  have web4 : PyData.tuple [.int (k : Int), .tuple ((S.take 400).map pairD)] = webD k (S.take 400) := rfl
  have gl : ∀ s, gLen s [.d (.list (S.map pairD))] = some (.d (.int 401)) := fun s => by rw [glen_l, List.length_map, lS]; rfl
  have odd : ∀ s, fAdd s (.d (.list ((S.take 400).map pairD))) (.d (.list [.none])) = some (.d (.list ((S.take 400).map pairD ++ [PyData.none]))) := fun s => cat_l s _ _ (by rw [List.length_map, l4]; simp)
  generalize hS4 : (S.take 400).map pairD = S4 at *
  generalize hSD : S.map pairD = SD at *
  rw [u_law_nw6_great_web_right, run_e]
  rw [show startA ["jar", "a", "some", "odd", "answers", "owed", "n", "links", "b"] [.r 0] = [some (.r 0), none, none, none, none, none, none, none, none] from rfl]
  rw [seq_nx (a' := [some (.r 0), none, none, none, none, none, some (.d (.int (k : Int))), some (.r (rest.length + 1)), none]) (s := J1 :: (rest ++ [.l []])) (by simp [s4, e1])]
  rw [seq_nx (a' := [some (.r 0), y1, none, none, none, none, some (.d (.int (k : Int))), some (.r (rest.length + 1)), none]) (s := J1 :: (rest ++ [.l (L.map pairD)])) ?q2]
  case q2 =>
    rw [for_xs _ _ _ (srg1_ok (s := J1 :: (rest ++ [.l []])) (n := k) ?z (by omega))]
    case z => simp
    exact loop
  rw [seq_nx (asg_nx (v := .d (.list SD)) (s := St) ?q3)]
  case q3 =>
    have sl : ∀ s, fSl s (.d (.list (zs.map pairD))) none (some 401) = some (.d (.list ((zs.take 401).map pairD))) := fun s => by simp only [fSl, vw, cut1]
    have so : ∀ s, gSort s [.d (.list ((zs.take 401).map pairD))] = some (.d (.list SD)) := fun s => by rw [srt_lp, ← hSD]
    simp only [a_cb, a_cons, a_sl, a_call, a_ofn, a_var, List.getElem?_cons_zero, List.getElem?_cons_succ, a_nil, Out.bind_ok, List.length_cons, List.length_nil, if_true, e2, a_onone, a_osome, a_c, int1_i, Option.map_some, lift_some, sl, so]
    rfl
  simp only [List.set_cons_succ, List.set_cons_zero]
  rw [seq_nx (asg_nx (v := .d (.list (S4 ++ [PyData.none]))) (s := St) (by simp [fsl, s1, odd]))]
  simp only [List.set_cons_succ, List.set_cons_zero]
  let E (a b : Option AV) : Env := [some (.r 0), y1, some (.d (.list SD)), some (.d (.list (S4 ++ [PyData.none]))), a, b, some (.d (.int (k : Int))), some (.r (rest.length + 1)), none]
  have o2 : ∀ a b, (E a b)[2]? = some (some (.d (.list SD))) := fun _ _ => rfl
  have o3 : ∀ a b, (E a b)[3]? = some (some (.d (.list (S4 ++ [PyData.none])))) := fun _ _ => rfl
  have o4 : ∀ a b, (E a b)[4]? = some a := fun _ _ => rfl
  have o5 : ∀ a b, (E a b)[5]? = some b := fun _ _ => rfl
  have o6 : ∀ a b, (E a b)[6]? = some (some (.d (.int (k : Int)))) := fun _ _ => rfl
  have w4' : ∀ a b c, (E a b).set 4 (some c) = E (some c) b := fun _ _ _ => rfl
  have w5' : ∀ a b c, (E a b).set 5 (some c) = E a (some c) := fun _ _ _ => rfl
  rw [show [some (AV.r 0), y1, some (.d (.list SD)), some (.d (.list (S4 ++ [PyData.none]))), none, none, some (.d (.int (k : Int))), some (.r (rest.length + 1)), none] = E none none from rfl]
  generalize hE : E = EE at *
  rw [seq_nx (a' := EE (some (.r St.length)) none) (s := St ++ [.l [A1]]) ?q5]
  case q5 =>
    rw [s_asg]
    simp only [a_thaw, a_lst, a_cons, a_hrd, a_call, a_ofn, a_tup, a_var, o2, o6, a_cb, a_sl, a_onone, a_osome, a_c, a_nil, Out.bind_ok, int1_i, Option.map_some, lift_some, fsl, gtup_l, dats_cons, dats_nil, List.length_cons, List.length_nil, Nat.zero_add, s1, s2, if_true, web4, w1, g_nm, w4']
    rfl
  rw [seq_nx (a' := EE (some (.r St.length)) none) (s := St ++ [.l [A1, A2]]) ?q6]
  case q6 =>
    rw [s_drop, a_m, a_var, o4]
    simp only [Out.bind_ok, t1, if_true, a_cons, a_hrd, a_call, a_ofn, a_tup, a_var, o2, o6, a_cb, a_nil, lift_some, gtup_l, dats_cons, dats_nil, Option.map_some, List.length_cons, List.length_nil, Nat.zero_add, s2, w2]
    rw [p1]
    rfl
  rw [seq_nx (a' := EE (some (.r St.length)) none) (s := St ++ [.l [A1, A2, A2]]) ?q7]
  case q7 =>
    rw [s_drop, a_m, a_var, o4]
    simp only [Out.bind_ok, t2, if_true, a_cons, a_hrd, a_call, a_ofn, a_tup, a_var, o3, o6, a_cb, a_nil, lift_some, gtup_l, dats_cons, dats_nil, Option.map_some, List.length_cons, List.length_nil, Nat.zero_add, s2, w3]
    rw [p2]
    rfl
  rw [seq_nx (a' := EE (some (.r St.length)) none) (s := St ++ [.l [A1, A2, A2, A4]]) ?q8]
  case q8 =>
    rw [s_drop, a_m, a_var, o4]
    simp only [Out.bind_ok, t3, if_true, a_cons, a_hrd, a_call, a_ofn, a_tup, a_c, a_nil, lift_some, dats_cons, dats_nil, Option.map_some, List.length_cons, List.length_nil, Nat.zero_add, s2, w4]
    rw [p3]
    rfl
  generalize hX : St ++ [Cell.l [A1, A2, A2, A4]] = X at *
  rw [seq_nx (a' := EE (some (.r St.length)) (some (.d (.list [A1, A2, A2, A4])))) (s := X) ?q9]
  case q9 =>
    rw [s_asg]
    simp only [a_frz, a_lst, a_cons, a_tup, a_var, o2, o6, a_cb, a_sl, a_onone, a_osome, a_c, a_nil, Out.bind_ok, int1_i, Option.map_some, lift_some, fsl, gtup_l, gl, dats_cons, dats_nil, List.length_cons, List.length_nil, Nat.zero_add, s1, s2, s4, if_true, web4, g_nm, w5', frz_l]
    rfl
  have fin : sRet (eCall (ofN 2 (D g "_law_ns_same" (q + 1))) (aCons (eVar 4) (aCons (eVar 5) aNil))) (EE (some (.r St.length)) (some (.d (.list [A1, A2, A2, A4])))) X = .ok (.rt (.d (.bool true))) X := by
    simp only [s_ret, a_call, a_ofn, a_cons, a_var, o4, o5, a_nil, Out.bind_ok, List.length_cons, List.length_nil, if_true]
    rw [same]
    rfl
  rw [fin, end_d, ← hX]
  simp [St]
end NL
end
section
set_option Elab.async false
set_option linter.all false
set_option maxRecDepth 2000000
set_option maxHeartbeats 2000000
/-! The law. -/
namespace NL
open PySem PySem.Spec PyProof.Rows L2

theorem turn_loop {m : Nat} (h : 16 ≤ m) {g : Bool} {N : List (List Int)} {x0 x2 : Option AV} (hN : Net N) : ∀ (k i n : Nat) (J : Cell) (x4 : Option AV), Jr n J → n + 1000 * k ≤ 2 ^ 250 →
    ∃ (J' : Cell) (y4 : Option AV), forL (gNm 4) (b1_law g m) (rgF i k) [x0, some (.r 0), x2, some (.d (netD N)), x4] [J] = .ok (.nx [x0, some (.r 0), x2, some (.d (netD N)), y4]) [J'] ∧ Jr (n + 1000 * k) J'
  | 0, i, n, J, x4, hJ, _ => ⟨J, x4, rfl, hJ⟩
  | k + 1, i, n, J, x4, hJ, hn => by
    obtain ⟨J1, e1, hJ1⟩ := s_refused h g (rest := []) hJ (by omega) hN
    obtain ⟨J2, y4, e2, hJ2⟩ := turn_loop h (g := g) (x0 := x0) (x2 := x2) hN k (i + 1) (n + 1000) J1 (some (.d (.int (i : Int)))) hJ1 (by omega)
    refine ⟨J2, y4, ?_, hJ2.up (by omega)⟩
    rw [rgF]
    unfold forL
    simp [xb1_law, e1]
    exact e2
theorem go_loop {m : Nat} (h : 18 ≤ m) {x0 : Option AV} : ∀ (k i n : Nat) (J : Cell) (x2 x3 x4 : Option AV), Jr n J → n + 130000 * k ≤ 2 ^ 250 →
    ∃ (J' : Cell) (y2 y3 y4 : Option AV), forL (gNm 2) (b0_law true m) (rgF i k) [x0, some (.r 0), x2, x3, x4] [J] = .ok (.nx [x0, some (.r 0), y2, y3, y4]) [J'] ∧ Jr (n + 130000 * k) J'
  | 0, i, n, J, x2, x3, x4, hJ, _ => ⟨J, x2, x3, x4, rfl, hJ⟩
  | k + 1, i, n, J, x2, x3, x4, hJ, hn => by
    obtain ⟨x, J1, e1, hx, hJ1⟩ := s_one (m := m) (by omega) true hJ (by omega) [] (xs := [.int 4, .int 7, .int 12, .int 40]) (by simp) (by simp)
    have hx' : ∃ k : Nat, x = .int (k : Int) ∧ k ≤ 40 := by
      simp only [List.mem_cons, List.not_mem_nil, or_false] at hx
      rcases hx with rfl | rfl | rfl | rfl
      · exact ⟨4, rfl, by omega⟩
      · exact ⟨7, rfl, by omega⟩
      · exact ⟨12, rfl, by omega⟩
      · exact ⟨40, rfl, by omega⟩
    obtain ⟨most, rfl, hm⟩ := hx'
    obtain ⟨N, J2, e2, hN, hJ2⟩ := s_net (m := m) (by omega) true hJ1 [] (by omega) hm
    obtain ⟨J3, e3, hJ3⟩ := s_net_right h [] hJ2 (by omega) hN
    obtain ⟨J4, e4, hJ4⟩ := s_web_right (m := m) (by omega) true hJ3 [] (by omega)
    obtain ⟨J5, y4, e5, hJ5⟩ := turn_loop (m := m) (by omega) (g := true) (x0 := x0) (x2 := some (.d (.int (i : Int)))) hN 6 0 _ J4 x4 hJ4 (by omega)
    obtain ⟨J6, z2, z3, z4, e6, hJ6⟩ := go_loop h (x0 := x0) k (i + 1) (n + 130000) J5 (some (.d (.int (i : Int)))) (some (.d (netD N))) y4 (hJ5.up (by omega)) (by omega)
    refine ⟨J6, z2, z3, z4, ?_, hJ6.up (by omega)⟩
    have four : 4 ≤ sizeLine := by rw [size_lit]; omega
    rw [rgF]
    unfold forL
    simp only [g_nm, List.set_cons_succ, List.set_cons_zero]
    rw [xb0_law]
    rw [seq_nx (asg_nx (v := .d (netD N)) (s := [J2]) (by simp [four, e1, e2]))]
    simp only [List.set_cons_succ, List.set_cons_zero]
    rw [seq_nx (a' := [x0, some (.r 0), some (.d (.int (i : Int))), some (.d (netD N)), x4]) (s := [J4]) (by simp [e3, e4])]
    rw [for_xs _ _ _ (srg1_ok (s := [J4]) (n := 6) ?z (by omega)), e5]
    case z => simp
    exact e6
theorem law_true {m : Nat} (h : 20 ≤ m) {ns : List Int} (hl : ns.length ≤ 63) : ∃ s, D true "law" m [.z ns] [] = .ok (.d (.bool true)) s := by
  obtain ⟨q, rfl⟩ := up2 (m := m) (by omega)
  obtain ⟨J, e0, hJ⟩ := s_pool (m := q + 1) (by omega) true (ns := ns) (by omega) []
  obtain ⟨J1, y2, y3, y4, e1, hJ1⟩ := go_loop (m := q + 1) (by omega) (x0 := some (.z ns)) 4 0 0 J none none none hJ (by omega)
  obtain ⟨J2, e2, hJ2⟩ := s_great_web (m := q + 1) (by omega) true (rest := []) hJ1 (by omega)
  obtain ⟨J3, e3, hJ3⟩ := s_great_net (m := q + 1) (by omega) true (rest := []) hJ2 (by omega)
  have e4 := s_hand (m := q + 1) (by omega) true [J3]
  refine ⟨[], ?_⟩
  rw [u_law, run_e]
  rw [show startA ["script", "jar", "go", "net", "turn"] [.z ns] = [some (.z ns), none, none, none, none] from rfl]
  rw [seq_nx (asg_nx (v := .r 0) (s := [J]) (by simp [e0]))]
  simp only [List.set_cons_succ, List.set_cons_zero]
  rw [seq_nx (a' := [some (.z ns), some (.r 0), y2, y3, y4]) (s := [J1]) ?q1]
  case q1 =>
    rw [for_xs _ _ _ (srg1_ok (s := [J]) (n := 4) ?z (by omega)), e1]
    case z => simp
  simp [e2, e3, e4]
end NL
theorem PySem.Challenge.cw_nolawtells_k06_webs_nets_and_moral_links_holds : PySem.Challenge.rw_nolawtells_k06_webs_nets_and_moral_links.Holds :=
  NL.endK (m := 60) (by omega) (NL.lawD 60) fun ns hl _ => NL.law_true (by omega) hl
end
