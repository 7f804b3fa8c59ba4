import PyProof.Rows.All
import Wide.All
import OpenK.AllK
import Wide.FinOn
import HandS.ForMost
import HandS.ForExc
import HandS.IsInst
import HandS.Conv
import HandS.Zip
import HandS.Walk
import HandS.Deep
import HandS.DictTup
import HandS.DictComp
import HandS.Lambda
import KE.KDflt
import HandS.TupAny
import HandS.TupMul
import HandS.CallSlots
import KE.GoesMore
import HandS.SortRule
import HandS.EndTab
import HandS.Style
import HandS.ExcInit
import HandS.TryMany
import HandS.ExcField
import KE.KExcSuper
import HandS.ExcIs
import PyProof.ReprRoads
import PyProof.ReprLen
import PyProof.StrLawsRepr
import HandS.Wide
import KE.KDictDisplayH
import KE.KSortTupAny
import KE.KDictPairs
import KE.KDictSum
import HandS.Star
import HandS.Small
import HandS.RaiseMore
import HandS.Property
import PySem.Challenge.RW_gaptrains_k43_texts_by_hand
set_option Elab.async false
set_option linter.all false
set_option maxRecDepth 100000
set_option maxHeartbeats 4000000
/-! GtA: data, the relation between data and the layer's values, steps of heaps. -/
namespace GT
open PySem PySem.Spec PyProof.Rows L2

/-- data: what a Python value is worth -/
inductive D where
  | non | bl (b : Bool) | int (i : Int) | str (x : Str)
  | lst (xs : List D) | tup (xs : List D)
  /-- the script -/
  | scr (ns : List Int)
  /-- dicts that are not changed any more: keys ints and texts; keys tuples of them -/
  | dK (kvs : List (Key × D)) | dT (kvs : List (List Key × D))
  /-- an object that may change, by its number -/
  | gr (n : Nat)
  /-- a lambda by its number, with what it has caught -/
  | clo (n : Nat) (ds : List D)
  /-- an error that was caught: its class and its fields -/
  | exn (c : Str) (fs : List (Str × D))

/-- an object that may change -/
inductive GO where
  | dct (kvs : List (Key × D))
  | ins (c : Str) (fs : List (Str × D))
  | lst (ds : List D)
  /-- a dict that is not changed any more -/
  | dz (kvs : List (Key × D))
abbrev G := List GO

/-- how a run ends -/
inductive R (α : Type) where
  | ok (a : α) (g : G)
  | exc (c : Str) (fs : List (Str × D)) (g : G)
  | stuck

/-- a lambda of the text -/
structure Lam where
  params : Arguments
  body : Expr
  scope : Scope
  qual : Str
  caps : List Str
  /-- its one parameter's default, if there is one -/
  dfl : Option Int
/-- its function: ct, the tuple of its cells and its doc; dV its defaults -/
def lamFn (L : Lam) (cl : List (Str × Addr)) (pm cdv : Value) (ct : Value × Value) (dV : Value) : FuncData := PySem.W.kdv_fn "<lambda>" L.qual L.params (.expr L.body) L.scope cl dV ct.2 pm cdv ct.1
def lamO (L : Lam) (cl : List (Str × Addr)) (pm : Value) (c : Addr) (ct : Value × Value) (dV : Value) : Obj := { cls := .type "function", data := .func (lamFn L cl pm (.ref c) ct dV) }
/-- where the default stands -/
inductive DfR (r : List Addr) (W : Addr → Prop) (H : Hp) : Option Int → Value → Prop
  | no : DfR r W H none .none
  | int {td : Addr} {k : Int} (h : H td = some (.tup [.int k])) (hr : td ∉ r) (hw : ¬ W td) : DfR r W H (some k) (.ref td)

/-- what is fixed for a row -/
structure Cst where
  K : PySem.W.Frag
  mg : Str → Option Value
  L : Nat → Lam
  T : List (Addr × Str)

/-- the object at a is o -/
def PinO (a : Addr) (o : Obj) : HO := .frz o (.own a)

/-- an error of the class cls stands at a, its own dict at d -/
def XO (cls : Value) (d : Option Addr) (a : Addr) : HO := .ext fun h => ∃ (oe : Obj) (vs : Array Value), h.get? a = some oe ∧ Zc cls d oe ∧ oe.data = .fields vs
/-- a dict that is a value: it is locked, so it is not written any more -/
def Fz (H : Hp) (a : Addr) (u : HO) : Prop := ∃ o, H a = some (.frz o u)
mutual
/-- d is what v is worth. r: the places of the objects that may change; W: what else may be written -/
inductive Rp (C : Cst) (r : List Addr) (W : Addr → Prop) (H : Hp) : D → V → Prop
  | non : Rp C r W H .non .non
  | bl (b : Bool) : Rp C r W H (.bl b) (.bl b)
  | int (i : Int) : Rp C r W H (.int i) (.int i)
  | str (x : Str) : Rp C r W H (.str x) (.str x)
  | lst {a : Addr} {xs : List V} {ds : List D} (h : H a = some (.lst xs)) (hz : xs.length ≤ sizeLine) (hr : a ∉ r) (hw : ¬ W a) (q : RpL C r W H ds xs) : Rp C r W H (.lst ds) (.ref a)
  | tup {a : Addr} {xs : List V} {ds : List D} (h : H a = some (.tup xs)) (hz : xs.length ≤ sizeLine) (hr : a ∉ r) (hw : ¬ W a) (q : RpL C r W H ds xs) : Rp C r W H (.tup ds) (.ref a)
  | dK {a : Addr} {ks : List (Key × D)} {xs : List (Key × V)} (h : Fz H a (.dK xs)) (hl : ks.map (·.1) = xs.map (·.1)) (hz : xs.length ≤ sizeLine) (hr : a ∉ r) (hw : ¬ W a) (q : RpL C r W H (ks.map (·.2)) (xs.map (·.2))) : Rp C r W H (.dK ks) (.ref a)
  | dT {a : Addr} {ks : List (List Key × D)} {xs : List (List Key × V)} (h : Fz H a (.dT xs)) (hl : ks.map (·.1) = xs.map (·.1)) (hz : xs.length ≤ sizeLine) (hr : a ∉ r) (hw : ¬ W a) (q : RpL C r W H (ks.map (·.2)) (xs.map (·.2))) : Rp C r W H (.dT ks) (.ref a)
  | scr {a : Addr} {ns : List Int} (h : Rd H a (.lst (ns.map V.int))) (hz : ns.length ≤ sizeLine) (hr : a ∉ r) (hw : ¬ W a) : Rp C r W H (.scr ns) (.ref a)
  | scrK {a : Addr} {ns : List Int} {o : Obj} {its : Array Value} {n : Nat} (h1 : C.K.lookup a = some o) (h2 : o.cls = .type "list") (h3 : o.dict = none) (h4 : o.data = .seq its n) (h5 : its.size ≤ sizeLine) (h6 : Vals (ns.map V.int) its.toList) : Rp C r W H (.scr ns) (.ref a)
  | gr {n : Nat} {a : Addr} (h : r[n]? = some a) : Rp C r W H (.gr n) (.ref a)
  | clo {n : Nat} {f c : Addr} {pm dV : Value} {ct : Value × Value} {cl : List (Str × Addr)} {us : List Value} {vs : List V} {ds : List D}
      (hdf : DfR r W H (C.L n).dfl dV) (hf : H f = some (PinO f (lamO (C.L n) cl pm c ct dV)))
      (hfr : f ∉ r) (hfw : ¬ W f) (hc : H c = some (LamX.CodeO c (C.L n).qual)) (hcr : c ∉ r) (hcw : ¬ W c)
      (hl : cl.map (·.1) = (C.L n).caps) (hlu : us.length = cl.length) (hi : ∀ x y a, cl.lookup x = some a → cl.lookup y = some a → x = y)
      (ho : ∀ (i : Nat) (p : Str × Addr), cl[i]? = some p → ∃ o u, H p.2 = some (PinO p.2 o) ∧ p.2 ∉ r ∧ ¬ W p.2 ∧ us[i]? = some u ∧ o.data = .cell (some u)) (hv : Vals vs us)
      (q : RpL C r W H ds vs) : Rp C r W H (.clo n ds) (.ref f)
  | exn0 {a cl : Addr} {c : Str} (hc : C.mg c = some (.ref cl)) (h : H a = some (XO (.ref cl) none a)) (hr : a ∉ r) (hw : ¬ W a) : Rp C r W H (.exn c []) (.ref a)
  | exn {a cl d : Addr} {c : Str} {fs : List (Str × D)} {xs : List (Str × V)} (hc : C.mg c = some (.ref cl)) (h : H a = some (XO (.ref cl) (some d) a)) (hr : a ∉ r) (hw : ¬ W a) (hd : H d = some (.xd xs)) (hdr : d ∉ r) (hdw : ¬ W d) (hl : fs.map (·.1) = xs.map (·.1)) (q : RpL C r W H (fs.map (·.2)) (xs.map (·.2))) : Rp C r W H (.exn c fs) (.ref a)
inductive RpL (C : Cst) (r : List Addr) (W : Addr → Prop) (H : Hp) : List D → List V → Prop
  | nil : RpL C r W H [] []
  | cons {d : D} {v : V} {ds : List D} {vs : List V} (h : Rp C r W H d v) (t : RpL C r W H ds vs) : RpL C r W H (d :: ds) (v :: vs)
end

theorem upd_dom {H : Hp} {p : Addr} {o : HO} : ∀ a, upd H p o a = none → H a = none := fun a e => by
  by_cases q : a = p
  · rw [q, upd_same] at e; cases e
  · rw [upd_ne q] at e; exact e
/-- what stays from one heap to a later one -/
structure Kp (r r' : List Addr) (W W' : Addr → Prop) (H H' : Hp) : Prop where
  pre : ∀ (n : Nat) (a : Addr), r[n]? = some a → r'[n]? = some a
  out : ∀ a, a ∈ r' ∨ W' a → a ∈ r ∨ W a ∨ H a = none
  ext : ∀ a o, H a = some o → a ∉ r → ¬ W a → (∀ ps, o ≠ .tbl ps) → H' a = some o
  dom : ∀ a, H' a = none → H a = none

theorem Rd.keep {H H' : Hp} {a : Addr} {o : HO} (h : Rd H a o) (no : ∀ ps, o ≠ .tbl ps) (e : ∀ u, H a = some u → (∀ ps, u ≠ .tbl ps) → H' a = some u) : Rd H' a o := by
  rcases h with h | ⟨b, h⟩
  · exact .inl (e _ h no)
  · exact .inr ⟨b, e _ h (fun ps z => by cases z)⟩
theorem Fz.rd {H : Hp} {a : Addr} {o : HO} (h : Fz H a o) : Rd H a o := .inr h
theorem Fz.keep {H H' : Hp} {a : Addr} {o : HO} (h : Fz H a o) (e : ∀ u, H a = some u → (∀ ps, u ≠ .tbl ps) → H' a = some u) : Fz H' a o := by
  obtain ⟨b, h⟩ := h
  exact ⟨b, e _ h (fun ps z => by cases z)⟩
theorem Rd.some {H : Hp} {a : Addr} {o : HO} (h : Rd H a o) : H a ≠ none := by
  rcases h with h | ⟨b, h⟩ <;> rw [h] <;> exact fun z => nomatch z

section
variable {C : Cst} {r r' : List Addr} {W W' : Addr → Prop} {H H' : Hp}
theorem Kp.nr (k : Kp r r' W W' H H') {a : Addr} (ha : H a ≠ none) (hr : a ∉ r) (hw : ¬ W a) : a ∉ r' := fun z => by
  rcases k.out a (.inl z) with h | h | h
  · exact hr h
  · exact hw h
  · exact ha h
theorem Kp.nw (k : Kp r r' W W' H H') {a : Addr} (ha : H a ≠ none) (hr : a ∉ r) (hw : ¬ W a) : ¬ W' a := fun z => by
  rcases k.out a (.inr z) with h | h | h
  · exact hr h
  · exact hw h
  · exact ha h
theorem Kp.refl (r : List Addr) (W : Addr → Prop) (H : Hp) : Kp r r W W H H := ⟨fun _ _ h => h, fun a q => q.elim .inl fun q => .inr (.inl q), fun _ _ h _ _ _ => h, fun _ h => h⟩
theorem Kp.trans {r'' : List Addr} {W'' : Addr → Prop} {H'' : Hp} (k : Kp r r' W W' H H') (t : Kp r' r'' W' W'' H' H'') : Kp r r'' W W'' H H'' where
  pre := fun n a h => t.pre n a (k.pre n a h)
  out := fun a h => by
    rcases t.out a h with q | q | q
    · exact k.out a (.inl q)
    · exact k.out a (.inr q)
    · exact .inr (.inr (k.dom a q))
  ext := fun a o h hr hw no => t.ext a o (k.ext a o h hr hw no) (k.nr (by rw [h]; exact fun z => nomatch z) hr hw) (k.nw (by rw [h]; exact fun z => nomatch z) hr hw) no
  dom := fun a h => k.dom a (t.dom a h)
theorem pin_ne {a : Addr} {o : Obj} : ∀ ps, PinO a o ≠ .tbl ps := fun ps z => by
  unfold PinO at z
  cases z
theorem xo_ne {c : Value} {d : Option Addr} {a : Addr} : ∀ ps, XO c d a ≠ .tbl ps := fun ps z => by
  unfold XO at z
  cases z
theorem DfR.keep (k : Kp r r' W W' H H') {o : Option Int} {v : Value} (h : DfR r W H o v) : DfR r' W' H' o v := by
  cases h with
  | no => exact .no
  | int h hr hw => exact .int (k.ext _ _ h hr hw (fun _ z => by cases z)) (k.nr (by rw [h]; exact fun z => nomatch z) hr hw) (k.nw (by rw [h]; exact fun z => nomatch z) hr hw)
mutual
theorem Rp.keep (k : Kp r r' W W' H H') : ∀ {d : D} {v : V}, Rp C r W H d v → Rp C r' W' H' d v
  | _, _, .non => .non
  | _, _, .bl b => .bl b
  | _, _, .int i => .int i
  | _, _, .str x => .str x
  | _, _, .lst h hz hr hw q => .lst (k.ext _ _ h hr hw (fun _ z => by cases z)) hz (k.nr (by rw [h]; exact fun z => nomatch z) hr hw) (k.nw (by rw [h]; exact fun z => nomatch z) hr hw) (RpL.keep k q)
  | _, _, .scr h hz hr hw => .scr (Rd.keep h (fun _ z => by cases z) fun u e n => k.ext _ u e hr hw n) hz (k.nr (Rd.some h) hr hw) (k.nw (Rd.some h) hr hw)
  | _, _, .scrK h1 h2 h3 h4 h5 h6 => .scrK h1 h2 h3 h4 h5 h6
  | _, _, .tup h hz hr hw q => .tup (k.ext _ _ h hr hw (fun _ z => by cases z)) hz (k.nr (by rw [h]; exact fun z => nomatch z) hr hw) (k.nw (by rw [h]; exact fun z => nomatch z) hr hw) (RpL.keep k q)
  | _, _, .dK h hl hz hr hw q => .dK (Fz.keep h fun u e n => k.ext _ u e hr hw n) hl hz (k.nr (Rd.some (Fz.rd h)) hr hw) (k.nw (Rd.some (Fz.rd h)) hr hw) (RpL.keep k q)
  | _, _, .dT h hl hz hr hw q => .dT (Fz.keep h fun u e n => k.ext _ u e hr hw n) hl hz (k.nr (Rd.some (Fz.rd h)) hr hw) (k.nw (Rd.some (Fz.rd h)) hr hw) (RpL.keep k q)
  | _, _, .gr h => .gr (k.pre _ _ h)
  | _, _, .exn0 hc h hr hw => .exn0 hc (k.ext _ _ h hr hw xo_ne) (k.nr (by rw [h]; exact fun z => nomatch z) hr hw) (k.nw (by rw [h]; exact fun z => nomatch z) hr hw)
  | _, _, .exn hc h hr hw hd hdr hdw hl q => .exn hc (k.ext _ _ h hr hw xo_ne) (k.nr (by rw [h]; exact fun z => nomatch z) hr hw) (k.nw (by rw [h]; exact fun z => nomatch z) hr hw) (k.ext _ _ hd hdr hdw (fun _ z => by cases z)) (k.nr (by rw [hd]; exact fun z => nomatch z) hdr hdw) (k.nw (by rw [hd]; exact fun z => nomatch z) hdr hdw) hl (RpL.keep k q)
  | _, _, .clo hdf hf hfr hfw hc hcr hcw hl hlu hi ho hv q => .clo (DfR.keep k hdf) (k.ext _ _ hf hfr hfw pin_ne) (k.nr (by rw [hf]; exact fun z => nomatch z) hfr hfw) (k.nw (by rw [hf]; exact fun z => nomatch z) hfr hfw)
      (k.ext _ _ hc hcr hcw LamX.codeO_ne) (k.nr (by rw [hc]; exact fun z => nomatch z) hcr hcw) (k.nw (by rw [hc]; exact fun z => nomatch z) hcr hcw) hl hlu hi
      (fun i a e => by
        obtain ⟨o, u, h1, h2, h3, h4, h5⟩ := ho i a e
        exact ⟨o, u, k.ext _ _ h1 h2 h3 pin_ne, k.nr (by rw [h1]; exact fun z => nomatch z) h2 h3, k.nw (by rw [h1]; exact fun z => nomatch z) h2 h3, h4, h5⟩) hv (RpL.keep k q)
theorem RpL.keep (k : Kp r r' W W' H H') : ∀ {ds : List D} {vs : List V}, RpL C r W H ds vs → RpL C r' W' H' ds vs
  | _, _, .nil => .nil
  | _, _, .cons h t => .cons (Rp.keep k h) (RpL.keep k t)
end
end

/-! ### steps -/
structure Step (r r' : List Addr) (H H' : Hp) : Prop where
  pre : ∀ (n : Nat) (a : Addr), r[n]? = some a → r'[n]? = some a
  fresh : ∀ a ∈ r', a ∈ r ∨ H a = none
  ext : ∀ a o, H a = some o → a ∉ r → (∀ ps, o ≠ .tbl ps) → H' a = some o
  dom : ∀ a, H' a = none → H a = none
section
variable {C : Cst} {r r' r'' : List Addr} {W W' : Addr → Prop} {H H' H'' : Hp}
theorem Step.refl (r : List Addr) (H : Hp) : Step r r H H := ⟨fun _ _ h => h, fun _ h => .inl h, fun _ _ h _ _ => h, fun _ h => h⟩
theorem Step.mem (s : Step r r' H H') {a : Addr} (h : a ∈ r) : a ∈ r' := by
  obtain ⟨n, hn⟩ := List.getElem?_of_mem h
  exact List.mem_of_getElem? (s.pre n a hn)
theorem Step.trans (s : Step r r' H H') (t : Step r' r'' H' H'') : Step r r'' H H'' where
  pre := fun n a h => t.pre n a (s.pre n a h)
  fresh := fun a h => by
    rcases t.fresh a h with q | q
    · exact s.fresh a q
    · exact .inr (s.dom a q)
  ext := fun a o h hr no => by
    refine t.ext a o (s.ext a o h hr no) (fun z => ?_) no
    rcases s.fresh a z with q | q
    · exact hr q
    · rw [h] at q; cases q
  dom := fun a h => s.dom a (t.dom a h)
theorem Step.kp (s : Step r r' H H') : Kp r r' W W H H' := ⟨s.pre, fun a h => by
    rcases h with h | h
    · rcases s.fresh a h with q | q
      · exact .inl q
      · exact .inr (.inr q)
    · exact .inr (.inl h), fun a o h hr _ no => s.ext a o h hr no, s.dom⟩
theorem Step.upd {p : Addr} {o : HO} (h : H p = none) : Step r r H (upd H p o) := ⟨fun _ _ h => h, fun _ h => .inl h, fun a u e _ _ => by
    rw [upd_ne (ne_of_none e h)]; exact e, fun a e => by
    by_cases q : a = p
    · subst q; exact h
    · rw [upd_ne q] at e; exact e⟩
theorem Rp.step (s : Step r r' H H') {d : D} {v : V} (h : Rp C r W H d v) : Rp C r' W H' d v := h.keep s.kp
theorem RpL.step (s : Step r r' H H') {d : List D} {v : List V} (h : RpL C r W H d v) : RpL C r' W H' d v := h.keep s.kp
theorem Rp.anti {d : D} {v : V} (h : Rp C r W H d v) (hw : ∀ a, W' a → W a) : Rp C r W' H d v := h.keep ⟨fun _ _ h => h, fun a q => q.elim .inl fun q => .inr (.inl (hw a q)), fun _ _ h _ _ _ => h, fun _ h => h⟩
theorem RpL.anti {d : List D} {v : List V} (h : RpL C r W H d v) (hw : ∀ a, W' a → W a) : RpL C r W' H d v := h.keep ⟨fun _ _ h => h, fun a q => q.elim .inl fun q => .inr (.inl (hw a q)), fun _ _ h _ _ _ => h, fun _ h => h⟩
theorem RpL.length : ∀ {ds : List D} {vs : List V}, RpL C r W H ds vs → ds.length = vs.length
  | _, _, .nil => rfl
  | _, _, .cons _ t => by simp only [List.length_cons, t.length]
theorem RpL.get : ∀ {ds : List D} {vs : List V} {i : Nat} {d : D}, RpL C r W H ds vs → ds[i]? = some d → ∃ v, vs[i]? = some v ∧ Rp C r W H d v
  | _, _, _, _, .nil, e => by simp at e
  | _, _, 0, _, .cons h _, e => by simp at e; subst e; exact ⟨_, rfl, h⟩
  | _, _, i + 1, d, .cons _ t, e => by
    obtain ⟨v, h1, h2⟩ := RpL.get (i := i) (d := d) t (by simpa using e)
    exact ⟨v, by simpa using h1, h2⟩
theorem RpL.getV : ∀ {ds : List D} {vs : List V} {i : Nat} {v : V}, RpL C r W H ds vs → vs[i]? = some v → ∃ d, ds[i]? = some d ∧ Rp C r W H d v
  | _, _, _, _, .nil, e => by simp at e
  | _, _, 0, _, .cons h _, e => by simp at e; subst e; exact ⟨_, rfl, h⟩
  | _, _, i + 1, d, .cons _ t, e => by
    obtain ⟨v, h1, h2⟩ := RpL.getV (i := i) (v := d) t (by simpa using e)
    exact ⟨v, by simpa using h1, h2⟩
theorem RpL.append : ∀ {ds es : List D} {vs ws : List V}, RpL C r W H ds vs → RpL C r W H es ws → RpL C r W H (ds ++ es) (vs ++ ws)
  | _, _, _, _, .nil, s => s
  | _, _, _, _, .cons h t, s => .cons h (t.append s)
theorem RpL.take : ∀ {ds : List D} {vs : List V} (n : Nat), RpL C r W H ds vs → RpL C r W H (ds.take n) (vs.take n)
  | _, _, 0, _ => .nil
  | _, _, _ + 1, .nil => .nil
  | _, _, n + 1, .cons h t => .cons h (t.take n)
theorem RpL.drop : ∀ {ds : List D} {vs : List V} (n : Nat), RpL C r W H ds vs → RpL C r W H (ds.drop n) (vs.drop n)
  | _, _, 0, h => h
  | _, _, _ + 1, .nil => .nil
  | _, _, n + 1, .cons _ t => t.drop n
theorem RpL.dropLast {ds : List D} {vs : List V} (h : RpL C r W H ds vs) : RpL C r W H ds.dropLast vs.dropLast := by
  rw [List.dropLast_eq_take, List.dropLast_eq_take, h.length]
  exact h.take _
end

/-! ### the objects that may change -/
inductive GOR (C : Cst) (r : List Addr) (W : Addr → Prop) (H : Hp) : GO → Addr → Prop
  | dct {a : Addr} {ks : List (Key × D)} {xs : List (Key × V)} (h : H a = some (.dK xs)) (hl : ks.map (·.1) = xs.map (·.1)) (hz : xs.length ≤ sizeLine) (q : RpL C r W H (ks.map (·.2)) (xs.map (·.2))) : GOR C r W H (.dct ks) a
  | ins {a : Addr} {c : Str} {cl dx : Addr} {ks : List (Str × D)} {xs : List (Str × V)} (h : H a = some (.ins cl dx xs)) (hl : ks.map (·.1) = xs.map (·.1)) (hc : C.mg c = some (.ref cl)) (q : RpL C r W H (ks.map (·.2)) (xs.map (·.2))) : GOR C r W H (.ins c ks) a
  | lst {a : Addr} {ds : List D} {xs : List V} (h : H a = some (.lst xs)) (hz : xs.length ≤ sizeLine) (q : RpL C r W H ds xs) : GOR C r W H (.lst ds) a
  | dz {a : Addr} {ks : List (Key × D)} {xs : List (Key × V)} (h : Fz H a (.dK xs)) (hl : ks.map (·.1) = xs.map (·.1)) (hz : xs.length ≤ sizeLine) (q : RpL C r W H (ks.map (·.2)) (xs.map (·.2))) : GOR C r W H (.dz ks) a
inductive GOs (C : Cst) (r : List Addr) (W : Addr → Prop) (H : Hp) : G → List Addr → Prop
  | nil : GOs C r W H [] []
  | cons {o : GO} {a : Addr} {g : G} {l : List Addr} (h : GOR C r W H o a) (t : GOs C r W H g l) : GOs C r W H (o :: g) (a :: l)
mutual
/-- no lambda in it -/
def D.nc : D → Bool
  | .non => true
  | .bl _ => true
  | .int _ => true
  | .str _ => true
  | .lst xs => D.ncs xs
  | .tup xs => D.ncs xs
  | .scr _ => true
  | .dK kvs => D.ncK kvs
  | .dT kvs => D.ncT kvs
  | .gr _ => true
  | .clo _ _ => false
  | .exn _ fs => D.ncF fs
def D.ncs : List D → Bool
  | [] => true
  | d :: ds => D.nc d && D.ncs ds
def D.ncK : List (Key × D) → Bool
  | [] => true
  | (_, d) :: ds => D.nc d && D.ncK ds
def D.ncT : List (List Key × D) → Bool
  | [] => true
  | (_, d) :: ds => D.nc d && D.ncT ds
def D.ncF : List (Str × D) → Bool
  | [] => true
  | (_, d) :: ds => D.nc d && D.ncF ds
end
theorem ncF_eq : ∀ kvs : List (Str × D), D.ncF kvs = D.ncs (kvs.map (·.2))
  | [] => by simp only [D.ncF, List.map_nil, D.ncs]
  | (_, d) :: l => by simp only [D.ncF, List.map_cons, D.ncs, ncF_eq l]
theorem ncK_eq : ∀ kvs : List (Key × D), D.ncK kvs = D.ncs (kvs.map (·.2))
  | [] => by simp only [D.ncK, List.map_nil, D.ncs]
  | (_, d) :: l => by simp only [D.ncK, List.map_cons, D.ncs, ncK_eq l]
theorem ncT_eq : ∀ kvs : List (List Key × D), D.ncT kvs = D.ncs (kvs.map (·.2))
  | [] => by simp only [D.ncT, List.map_nil, D.ncs]
  | (_, d) :: l => by simp only [D.ncT, List.map_cons, D.ncs, ncT_eq l]
def GO.nc : GO → Bool
  | .dct kvs => D.ncs (kvs.map (·.2))
  | .ins _ fs => D.ncs (fs.map (·.2))
  | .lst ds => D.ncs ds
  | .dz kvs => D.ncs (kvs.map (·.2))
def gnc (g : G) : Bool := g.all GO.nc
/-- what is never written -/
inductive Nw : HO → Prop
  | tup (xs : List V) : Nw (.tup xs)
  | ext (φ : Heap → Prop) : Nw (.ext φ)
structure Bs (C : Cst) (W : Addr → Prop) (g : G) (r : List Addr) (H : Hp) : Prop where
  tabs : LamX.Tabs C.T H
  nd : r.Nodup
  rtr : ∀ a ∈ r, H a ≠ none
  wtr : ∀ a, W a → H a ≠ none
  dis : ∀ a ∈ r, ¬ W a
  wnt : ∀ a, W a → ∀ o, Nw o → H a ≠ some o
  objs : GOs C r W H g r
  gn : gnc g = true
section
variable {C : Cst} {r r' : List Addr} {W W' : Addr → Prop} {H H' : Hp} {g : G}
theorem GOs.keep (k : Kp r r' W W' H H') : ∀ {g : G} {l : List Addr}, (∀ a ∈ l, H' a = H a) → GOs C r W H g l → GOs C r' W' H' g l
  | _, _, _, .nil => .nil
  | _, _, e, .cons h t => by
    have ea := e _ (List.mem_cons_self ..)
    refine .cons ?_ (t.keep k fun b hb => e b (List.mem_cons_of_mem _ hb))
    cases h with
    | dct h hl hz q => exact .dct (ea.trans h) hl hz (q.keep k)
    | ins h hl hc q => exact .ins (ea.trans h) hl hc (q.keep k)
    | lst h hz q => exact .lst (ea.trans h) hz (q.keep k)
    | dz h hl hz q => obtain ⟨o, h⟩ := h; exact .dz ⟨o, ea.trans h⟩ hl hz (q.keep k)
theorem GOs.nt : ∀ {g : G} {l : List Addr} {a : Addr}, GOs C r W H g l → a ∈ l → ∀ xs, H a ≠ some (.tup xs)
  | _, _, _, .nil, h => by cases h
  | _, _, a, .cons h t, q => fun xs z => by
    rcases List.mem_cons.mp q with e | e
    · subst e
      cases h with
      | dct h => rw [h] at z; cases z
      | ins h => rw [h] at z; cases z
      | lst h => rw [h] at z; cases z
      | dz h => obtain ⟨o, h⟩ := h; rw [h] at z; cases z
    · exact t.nt e xs z
theorem Bs.w0 (b : Bs C W g r H) {a : Addr} (h : H a = none) : ¬ W a := fun z => b.wtr a z h
theorem Bs.r0 (b : Bs C W g r H) {a : Addr} (h : H a = none) : a ∉ r := fun z => b.rtr a z h
/-- a new object -/
theorem Bs.upd {p : Addr} {o : HO} (b : Bs C W g r H) (hp : H p = none) : Bs C W g r (upd H p o) where
  tabs := b.tabs.ext fun a u e => by rw [upd_ne (ne_of_none e hp)]; exact e
  nd := b.nd
  rtr := fun a ha => by
    by_cases q : a = p
    · rw [q, upd_same]; exact fun z => nomatch z
    · rw [upd_ne q]; exact b.rtr a ha
  wtr := fun a ha => by
    by_cases q : a = p
    · rw [q, upd_same]; exact fun z => nomatch z
    · rw [upd_ne q]; exact b.wtr a ha
  dis := b.dis
  wnt := fun a ha xs n => by
    rw [upd_ne (fun q => b.wtr a ha (by rw [q]; exact hp))]; exact b.wnt a ha xs n
  objs := b.objs.keep (Step.upd hp).kp fun a ha => by
    rw [upd_ne (fun q => b.rtr a ha (by rw [q]; exact hp))]
  gn := b.gn
/-- less may be written -/
theorem Bs.anti (b : Bs C W g r H) (hw : ∀ a, W' a → W a) : Bs C W' g r H :=
  ⟨b.tabs, b.nd, b.rtr, fun a h => b.wtr a (hw a h), fun a h q => b.dis a h (hw a q), fun a h => b.wnt a (hw a h), b.objs.keep ⟨fun _ _ h => h, fun a q => q.elim .inl fun q => .inr (.inl (hw a q)), fun _ _ h _ _ _ => h, fun _ h => h⟩ fun _ _ => rfl, b.gn⟩
/-- one more that may be written, new -/
theorem Bs.more {p : Addr} {o : HO} (b : Bs C W g r H) (hp : H p = none) (nt : ¬ Nw o) : Bs C (fun a => a = p ∨ W a) g r (L2.upd H p o) := by
  have b1 := b.upd (o := o) hp
  refine ⟨b1.tabs, b1.nd, b1.rtr, fun a h => ?_, fun a h q => ?_, fun a h xs n => ?_, ?_, b.gn⟩
  · rcases h with h | h
    · rw [h, upd_same]; exact fun z => nomatch z
    · exact b1.wtr a h
  · rcases q with q | q
    · exact b.rtr a h (by rw [q]; exact hp)
    · exact b.dis a h q
  · rcases h with h | h
    · rw [h, upd_same]; exact fun z => nt (Option.some.inj z ▸ n)
    · exact b1.wnt a h xs n
  · refine b.objs.keep ⟨fun _ _ h => h, fun a q => ?_, fun a u e _ _ _ => by rw [upd_ne (ne_of_none e hp)]; exact e, upd_dom⟩ fun a ha => by rw [upd_ne (fun q => b.rtr a ha (by rw [q]; exact hp))]
    rcases q with q | q | q
    · exact .inl q
    · exact .inr (.inr (by rw [q]; exact hp))
    · exact .inr (.inl q)
/-- what may be written is written -/
theorem Bs.write {p : Addr} {o : HO} (b : Bs C W g r H) (hp : W p) (nt : ∀ ps, H p ≠ some (.tbl ps)) (nu : ¬ Nw o) (ho : ∀ q, H p ≠ some (LamX.CodeO p q)) : Bs C W g r (L2.upd H p o) where
  tabs := fun q hq => by
    obtain ⟨ps, h1, h2, h3⟩ := b.tabs q hq
    refine ⟨ps, ?_, h2, fun pos cv hc => ?_⟩
    · rw [upd_ne (fun z => nt ps (by rw [← z]; exact h1))]; exact h1
    · obtain ⟨c, e1, e2⟩ := h3 pos cv hc
      exact ⟨c, e1, by rw [upd_ne (fun z => ho q.2 (by rw [← z]; exact e2))]; exact e2⟩
  nd := b.nd
  rtr := fun a ha => by rw [upd_ne (fun q => b.dis a ha (by rw [q]; exact hp))]; exact b.rtr a ha
  wtr := fun a ha => by
    by_cases q : a = p
    · rw [q, upd_same]; exact fun z => nomatch z
    · rw [upd_ne q]; exact b.wtr a ha
  dis := b.dis
  wnt := fun a ha xs n => by
    by_cases q : a = p
    · rw [q, upd_same]; exact fun z => nu (Option.some.inj z ▸ n)
    · rw [upd_ne q]; exact b.wnt a ha xs n
  objs := b.objs.keep ⟨fun _ _ h => h, fun a q => q.elim .inl fun q => .inr (.inl q), fun a u e _ hw _ => by rw [upd_ne (fun q => hw (by rw [q]; exact hp))]; exact e, upd_dom⟩ fun a ha => by
    rw [upd_ne (fun q => b.dis a ha (by rw [q]; exact hp))]
  gn := b.gn
theorem Kp.write {p : Addr} {o : HO} (hp : W p) : Kp r r W W H (L2.upd H p o) := ⟨fun _ _ h => h, fun a q => q.elim .inl fun q => .inr (.inl q), fun a u e _ hw _ => by rw [upd_ne (fun q => hw (by rw [q]; exact hp))]; exact e, upd_dom⟩
theorem Kp.more {p : Addr} {o : HO} (hp : H p = none) : Kp r r W (fun a => a = p ∨ W a) H (L2.upd H p o) := ⟨fun _ _ h => h, fun a q => by
    rcases q with q | q | q
    · exact .inl q
    · exact .inr (.inr (by rw [q]; exact hp))
    · exact .inr (.inl q), fun a u e _ _ _ => by rw [upd_ne (ne_of_none e hp)]; exact e, upd_dom⟩
end

/-! ### the names' contents -/
/-- a name: nothing, a datum, or a list or dict of its own that may grow -/
inductive Slot where
  | no | val (d : D) | ol (ds : List D) | oK (kvs : List (Key × D)) | oT (kvs : List (List Key × D))
abbrev Ev := List Slot
inductive SlR (C : Cst) (r : List Addr) (W : Addr → Prop) (H : Hp) : Slot → Option Addr → Option V → Prop
  | no {v : Option V} : SlR C r W H .no none v
  | val {d : D} {v : V} (h : Rp C r W H d v) : SlR C r W H (.val d) none (some v)
  | ol {a : Addr} {ds : List D} {xs : List V} (h : H a = some (.lst xs)) (hz : xs.length ≤ sizeLine) (q : RpL C r W H ds xs) : SlR C r W H (.ol ds) (some a) (some (.ref a))
  | oK {a : Addr} {ks : List (Key × D)} {xs : List (Key × V)} (h : H a = some (.dK xs)) (hl : ks.map (·.1) = xs.map (·.1)) (hz : xs.length ≤ sizeLine) (q : RpL C r W H (ks.map (·.2)) (xs.map (·.2))) : SlR C r W H (.oK ks) (some a) (some (.ref a))
  | oT {a : Addr} {ks : List (List Key × D)} {xs : List (List Key × V)} (h : H a = some (.dT xs)) (hl : ks.map (·.1) = xs.map (·.1)) (hz : xs.length ≤ sizeLine) (q : RpL C r W H (ks.map (·.2)) (xs.map (·.2))) : SlR C r W H (.oT ks) (some a) (some (.ref a))
inductive Sls (C : Cst) (r : List Addr) (W : Addr → Prop) (H : Hp) : Ev → List (Option Addr) → L2.St → Prop
  | nil : Sls C r W H [] [] []
  | cons {s : Slot} {o : Option Addr} {v : Option V} {e : Ev} {l : List (Option Addr)} {σ : L2.St} (h : SlR C r W H s o v) (t : Sls C r W H e l σ) : Sls C r W H (s :: e) (o :: l) (v :: σ)
structure Sm (C : Cst) (W : Addr → Prop) (env : Ev) (oas : List (Option Addr)) (g : G) (r : List Addr) (σ : L2.St) (H : Hp) : Prop where
  bs : Bs C W g r H
  sl : Sls C r W H env oas σ
  own : ∀ a, some a ∈ oas → W a
  ownd : ∀ (i j : Nat) (a : Addr), oas[i]? = some (some a) → oas[j]? = some (some a) → i = j
section
variable {C : Cst} {r r' : List Addr} {W W' : Addr → Prop} {H H' : Hp} {g g' : G} {env : Ev} {oas : List (Option Addr)} {σ : L2.St}
theorem SlR.keep (k : Kp r r' W W' H H') {s : Slot} {o : Option Addr} {v : Option V} (e : ∀ a, o = some a → H' a = H a) (h : SlR C r W H s o v) : SlR C r' W' H' s o v := by
  cases h with
  | no => exact .no
  | val h => exact .val (h.keep k)
  | ol h hz q => exact .ol ((e _ rfl).trans h) hz (q.keep k)
  | oK h hl hz q => exact .oK ((e _ rfl).trans h) hl hz (q.keep k)
  | oT h hl hz q => exact .oT ((e _ rfl).trans h) hl hz (q.keep k)
theorem Sls.keep (k : Kp r r' W W' H H') : ∀ {env : Ev} {oas : List (Option Addr)} {σ : L2.St}, (∀ a, some a ∈ oas → H' a = H a) → Sls C r W H env oas σ → Sls C r' W' H' env oas σ
  | _, _, _, _, .nil => .nil
  | _, _, _, e, .cons h t => .cons (h.keep k fun a q => e a (by rw [q]; exact List.mem_cons_self ..)) (t.keep k fun a q => e a (List.mem_cons_of_mem _ q))
theorem SlR.tr {s : Slot} {a : Addr} {v : Option V} (h : SlR C r W H s (some a) v) : ∃ o, H a = some o ∧ (∀ ps, o ≠ .tbl ps) ∧ ∀ q, o ≠ LamX.CodeO a q := by
  cases h with
  | ol h => exact ⟨_, h, (fun _ z => nomatch z), fun _ z => by unfold LamX.CodeO at z; cases z⟩
  | oK h => exact ⟨_, h, (fun _ z => nomatch z), fun _ z => by unfold LamX.CodeO at z; cases z⟩
  | oT h => exact ⟨_, h, (fun _ z => nomatch z), fun _ z => by unfold LamX.CodeO at z; cases z⟩
theorem Sls.tr : ∀ {env : Ev} {oas : List (Option Addr)} {σ : L2.St} {a : Addr}, Sls C r W H env oas σ → some a ∈ oas → ∃ o, H a = some o ∧ (∀ ps, o ≠ .tbl ps) ∧ ∀ q, o ≠ LamX.CodeO a q
  | _, _, _, _, .nil, h => by cases h
  | _, _, _, a, .cons (o := o) h t, q => by
    rcases List.mem_cons.mp q with e | e
    · subst e; exact h.tr
    · exact t.tr e
theorem Sls.get : ∀ {env : Ev} {oas : List (Option Addr)} {σ : L2.St} {i : Nat} {s : Slot}, Sls C r W H env oas σ → env[i]? = some s → ∃ o v, oas[i]? = some o ∧ σ[i]? = some v ∧ SlR C r W H s o v
  | _, _, _, _, _, .nil, e => by simp at e
  | _, _, _, 0, _, .cons h _, e => by simp at e; subst e; exact ⟨_, _, rfl, rfl, h⟩
  | _, _, _, i + 1, s, .cons _ t, e => by
    obtain ⟨o, v, h1, h2, h3⟩ := Sls.get (i := i) (s := s) t (by simpa using e)
    exact ⟨o, v, by simpa using h1, by simpa using h2, h3⟩
theorem Sls.set {s : Slot} {o : Option Addr} {v : Option V} (h : SlR C r W H s o v) : ∀ {env : Ev} {oas : List (Option Addr)} {σ : L2.St} (i : Nat), Sls C r W H env oas σ → Sls C r W H (env.set i s) (oas.set i o) (σ.set i v)
  | _, _, _, _, .nil => .nil
  | _, _, _, 0, .cons _ t => .cons h t
  | _, _, _, i + 1, .cons q t => .cons q (Sls.set h i t)
theorem Sls.len : ∀ {env : Ev} {oas : List (Option Addr)} {σ : L2.St}, Sls C r W H env oas σ → env.length = σ.length ∧ oas.length = σ.length
  | _, _, _, .nil => ⟨rfl, rfl⟩
  | _, _, _, .cons _ t => ⟨by simp [t.len.1], by simp [t.len.2]⟩
/-- behind an expression -/
theorem Sm.step (m : Sm C W env oas g r σ H) (s : Step r r' H H') (b : Bs C W g' r' H') : Sm C W env oas g' r' σ H' where
  bs := b
  sl := m.sl.keep s.kp fun a ha => by
    obtain ⟨o, h1, h2, _⟩ := m.sl.tr ha
    rw [h1]
    exact s.ext a o h1 (fun z => m.bs.dis a z (m.own a ha)) h2
  own := m.own
  ownd := m.ownd
end
end GT

/-! GtB: readings that simulate; expressions. -/
namespace GT
open PySem PySem.Spec PyProof.Rows L2

def R.bind {α β : Type} (m : R α) (f : α → G → R β) : R β := match m with
  | .ok a g => f a g
  | .exc c fs g => .exc c fs g
  | .stuck => .stuck
def liftO {α : Type} (o : Option α) (g : G) : R α := match o with
  | some a => .ok a g
  | none => .stuck
abbrev ME := Ev → G → R D
abbrev MT := Ev → G → R Bool
abbrev MA := Ev → G → R (List D)

/-- an exception of the class c with the fields fs: its class at cl, its dict, if it has one, at dx -/
def ExR (C : Cst) (r : List Addr) (W : Addr → Prop) (H : Hp) (c : Str) (fs : List (Str × D)) (cl : Addr) (dx : Option Addr) : Prop :=
  C.mg c = some (.ref cl) ∧ ((dx = none ∧ fs = []) ∨ ∃ d, dx = some d ∧ d ∉ r ∧ ¬ W d ∧ ∃ (xs : List (Str × V)), fs.map (·.1) = xs.map (·.1) ∧ H d = some (.xd xs) ∧ RpL C r W H (fs.map (·.2)) (xs.map (·.2)))

def Post (C : Cst) (Wx : WX) (W : Addr → Prop) (r : List Addr) (σ : L2.St) (H : Hp) {α β : Type} (Rl : List Addr → Hp → α → β → Prop) (Q : β → Hp → Prop) : R α → Prop
  | .ok d g' => ∀ v H' r', Bs C W g' r' H' → Step r r' H H' → Rl r' H' d v → Q v H'
  | .exc c fs g' => ∀ cl dx H' r', Bs C W g' r' H' → Step r r' H H' → ExR C r' W H' c fs cl dx → Wx (.ref cl) dx σ H'
  | .stuck => False
section
variable {C : Cst} {Wx : WX} {W : Addr → Prop} {r r1 : List Addr} {σ : L2.St} {H H1 : Hp} {α β γ δ : Type} {Rl : List Addr → Hp → α → β → Prop} {Rl2 : List Addr → Hp → γ → δ → Prop} {Q Q' : β → Hp → Prop} {Q2 : δ → Hp → Prop}
theorem Post.mono {m : R α} (h : Post C Wx W r σ H Rl Q m) (k : ∀ v H', Q v H' → Q' v H') : Post C Wx W r σ H Rl Q' m := by
  cases m with
  | ok d g => exact fun v H' r' b s q => k v H' (h v H' r' b s q)
  | exc c fs g => exact h
  | stuck => exact h
theorem Post.after {m : R α} (h : Post C Wx W r σ H Rl Q m) (s : Step r r1 H H1) : Post C Wx W r1 σ H1 Rl Q m := by
  cases m with
  | ok d g => exact fun v H' r' b t q => h v H' r' b (s.trans t) q
  | exc c fs g => exact fun cl dx H' r' b t q => h cl dx H' r' b (s.trans t) q
  | stuck => exact h
/-- what is known behind the first part -/
def Then (C : Cst) (Wx : WX) (W : Addr → Prop) (r : List Addr) (σ : L2.St) (H : Hp) (Rl : List Addr → Hp → α → β → Prop) (Rl2 : List Addr → Hp → γ → δ → Prop) (Q2 : δ → Hp → Prop) (f : α → G → R γ) (v : β) (H1 : Hp) : Prop :=
  ∃ d g1 r1, Bs C W g1 r1 H1 ∧ Step r r1 H H1 ∧ Rl r1 H1 d v ∧ Post C Wx W r1 σ H1 Rl2 Q2 (f d g1)
theorem Post.split {m : R α} {f : α → G → R γ} (h : Post C Wx W r σ H Rl2 Q2 (m.bind f)) : Post C Wx W r σ H Rl (Then C Wx W r σ H Rl Rl2 Q2 f) m := by
  cases m with
  | ok d g => exact fun v H' r' b s q => ⟨d, g, r', b, s, q, Post.after (m := f d g) h s⟩
  | exc c fs g => exact h
  | stuck => exact h
theorem Post.here {d : α} {g : G} {v : β} (h : Post C Wx W r σ H Rl Q (.ok d g)) (b : Bs C W g r H) (q : Rl r H d v) : Q v H := h v H r b (Step.refl _ _) q
end
/-- the same without a new object -/
theorem liftO_some {α : Type} {o : Option α} {g : G} {C : Cst} {Wx : WX} {W : Addr → Prop} {r : List Addr} {σ : L2.St} {H : Hp} {β : Type} {Rl : List Addr → Hp → α → β → Prop} {Q : β → Hp → Prop} (h : Post C Wx W r σ H Rl Q (liftO o g)) : ∃ a, o = some a ∧ Post C Wx W r σ H Rl Q (.ok a g) := by
  cases o with
  | some a => exact ⟨a, rfl, h⟩
  | none => exact h.elim

abbrev RlE (C : Cst) (W : Addr → Prop) : List Addr → Hp → D → V → Prop := fun r H d v => Rp C r W H d v
abbrev RlA (C : Cst) (W : Addr → Prop) : List Addr → Hp → List D → List V → Prop := fun r H d v => RpL C r W H d v
abbrev RlT : List Addr → Hp → Bool → Bool → Prop := fun _ _ b c => c = b
def RE (C : Cst) (Wx : WX) (m : ME) : TE := fun σ H Q => ∃ W env oas g r, Sm C W env oas g r σ H ∧ Post C Wx W r σ H (RlE C W) Q (m env g)
def RT (C : Cst) (Wx : WX) (m : MT) : TT := fun σ H Q => ∃ W env oas g r, Sm C W env oas g r σ H ∧ Post C Wx W r σ H RlT Q (m env g)
def RA (C : Cst) (Wx : WX) (m : MA) : TA := fun σ H Q => ∃ W env oas g r, Sm C W env oas g r σ H ∧ Post C Wx W r σ H (RlA C W) Q (m env g)

/-- a value that is looked at and not handed on: also a list or dict that may still grow -/
inductive PRp (C : Cst) (r : List Addr) (W : Addr → Prop) (H : Hp) : D → V → Prop
  | of {d : D} {v : V} (h : Rp C r W H d v) : PRp C r W H d v
  | lst {a : Addr} {xs : List V} {ds : List D} (h : H a = some (.lst xs)) (hz : xs.length ≤ sizeLine) (hr : a ∉ r) (q : RpL C r W H ds xs) : PRp C r W H (.lst ds) (.ref a)
  | dK {a : Addr} {ks : List (Key × D)} {xs : List (Key × V)} (h : H a = some (.dK xs)) (hl : ks.map (·.1) = xs.map (·.1)) (hz : xs.length ≤ sizeLine) (hr : a ∉ r) (q : RpL C r W H (ks.map (·.2)) (xs.map (·.2))) : PRp C r W H (.dK ks) (.ref a)
  | dT {a : Addr} {ks : List (List Key × D)} {xs : List (List Key × V)} (h : H a = some (.dT xs)) (hl : ks.map (·.1) = xs.map (·.1)) (hz : xs.length ≤ sizeLine) (hr : a ∉ r) (q : RpL C r W H (ks.map (·.2)) (xs.map (·.2))) : PRp C r W H (.dT ks) (.ref a)
abbrev RlP (C : Cst) (W : Addr → Prop) : List Addr → Hp → D → V → Prop := fun r H d v => PRp C r W H d v
def RP (C : Cst) (Wx : WX) (m : ME) : TE := fun σ H Q => ∃ W env oas g r, Sm C W env oas g r σ H ∧ Post C Wx W r σ H (RlP C W) Q (m env g)

section
variable {C : Cst} {r r' : List Addr} {W : Addr → Prop} {H H' : Hp}
theorem PRp.step (s : Step r r' H H') {d : D} {v : V} (h : PRp C r W H d v) : PRp C r' W H' d v := by
  have nr : ∀ {a : Addr} {o : HO}, H a = some o → a ∉ r → a ∉ r' := fun {a o} h hr z => by
    rcases s.fresh a z with q | q
    · exact hr q
    · rw [h] at q; cases q
  cases h with
  | of h => exact .of (h.step s)
  | lst h hz hr q => exact .lst (s.ext _ _ h hr (fun _ z => nomatch z)) hz (nr h hr) (q.step s)
  | dK h hl hz hr q => exact .dK (s.ext _ _ h hr (fun _ z => nomatch z)) hl hz (nr h hr) (q.step s)
  | dT h hl hz hr q => exact .dT (s.ext _ _ h hr (fun _ z => nomatch z)) hl hz (nr h hr) (q.step s)
theorem PRp.isLst {ds : List D} {v : V} (h : PRp C r W H (.lst ds) v) : ∃ a xs, v = .ref a ∧ H a = some (.lst xs) ∧ xs.length ≤ sizeLine ∧ RpL C r W H ds xs := by
  cases h with
  | of h => cases h with | lst h hz _ _ q => exact ⟨_, _, rfl, h, hz, q⟩
  | lst h hz _ q => exact ⟨_, _, rfl, h, hz, q⟩
theorem PRp.isTup {ds : List D} {v : V} (h : PRp C r W H (.tup ds) v) : ∃ a xs, v = .ref a ∧ H a = some (.tup xs) ∧ xs.length ≤ sizeLine ∧ RpL C r W H ds xs := by
  cases h with
  | of h => cases h with | tup h hz _ _ q => exact ⟨_, _, rfl, h, hz, q⟩
theorem PRp.isScr {ns : List Int} {v : V} (h : PRp C r W H (.scr ns) v) : ∃ a, v = .ref a ∧ SqL C.K H a (ns.map V.int) := by
  cases h with
  | of h => cases h with
    | scr h _ _ _ => exact ⟨_, rfl, .inl h⟩
    | scrK h1 h2 h3 h4 h5 h6 => exact ⟨_, rfl, .inr ⟨_, _, _, h1, h2, h3, h4, h5, h6⟩⟩
theorem PRp.isDK {kvs : List (Key × D)} {v : V} (h : PRp C r W H (.dK kvs) v) : ∃ (a : Addr) (xs : List (Key × V)), v = .ref a ∧ Rd H a (.dK xs) ∧ kvs.map (·.1) = xs.map (·.1) ∧ xs.length ≤ sizeLine ∧ a ∉ r ∧ RpL C r W H (kvs.map (·.2)) (xs.map (·.2)) := by
  cases h with
  | of h => cases h with | dK h hl hz hr _ q => exact ⟨_, _, rfl, Fz.rd h, hl, hz, hr, q⟩
  | dK h hl hz hr q => exact ⟨_, _, rfl, .inl h, hl, hz, hr, q⟩
theorem PRp.isDT {kvs : List (List Key × D)} {v : V} (h : PRp C r W H (.dT kvs) v) : ∃ (a : Addr) (xs : List (List Key × V)), v = .ref a ∧ Rd H a (.dT xs) ∧ kvs.map (·.1) = xs.map (·.1) ∧ xs.length ≤ sizeLine ∧ a ∉ r ∧ RpL C r W H (kvs.map (·.2)) (xs.map (·.2)) := by
  cases h with
  | of h => cases h with | dT h hl hz hr _ q => exact ⟨_, _, rfl, Fz.rd h, hl, hz, hr, q⟩
  | dT h hl hz hr q => exact ⟨_, _, rfl, .inl h, hl, hz, hr, q⟩
theorem PRp.isInt {i : Int} {v : V} (h : PRp C r W H (.int i) v) : v = .int i := by cases h with | of h => cases h; rfl
theorem PRp.isStr {i : Str} {v : V} (h : PRp C r W H (.str i) v) : v = .str i := by cases h with | of h => cases h; rfl
theorem PRp.isBl {i : Bool} {v : V} (h : PRp C r W H (.bl i) v) : v = .bl i := by cases h with | of h => cases h; rfl
theorem PRp.isNon {v : V} (h : PRp C r W H .non v) : v = .non := by cases h with | of h => cases h; rfl
theorem Rp.isInt {i : Int} {v : V} (h : Rp C r W H (.int i) v) : v = .int i := by cases h; rfl
theorem Rp.isStr {i : Str} {v : V} (h : Rp C r W H (.str i) v) : v = .str i := by cases h; rfl
theorem Rp.isBl {i : Bool} {v : V} (h : Rp C r W H (.bl i) v) : v = .bl i := by cases h; rfl
theorem Rp.isNon {v : V} (h : Rp C r W H .non v) : v = .non := by cases h; rfl
/-- a new tuple, a new list -/
theorem Rp.newT {p : Addr} {xs : List V} {ds : List D} {g : G} (b : Bs C W g r H) (hp : H p = none) (hz : xs.length ≤ sizeLine) (q : RpL C r W H ds xs) : Rp C r W (upd H p (.tup xs)) (.tup ds) (.ref p) :=
  .tup upd_same hz (b.r0 hp) (b.w0 hp) (q.step (Step.upd hp))
theorem Rp.newL {p : Addr} {xs : List V} {ds : List D} {g : G} (b : Bs C W g r H) (hp : H p = none) (hz : xs.length ≤ sizeLine) (q : RpL C r W H ds xs) : Rp C r W (upd H p (.lst xs)) (.lst ds) (.ref p) :=
  .lst upd_same hz (b.r0 hp) (b.w0 hp) (q.step (Step.upd hp))
end

section
variable {X : Cx} {C : Cst} {Wx : WX}
theorem PEm {e : Expr} {t t' : TE} (h : PE X e t) (k : ∀ σ H Q, t' σ H Q → t σ H Q) : PE X e t' := ⟨fun pins s σ H Q I q => h.run pins s σ H Q I (k σ H Q q)⟩
theorem PTm {e : Expr} {t t' : TT} (h : PT X e t) (k : ∀ σ H Q, t' σ H Q → t σ H Q) : PT X e t' := ⟨fun pins s σ H Q I q => h.run pins s σ H Q I (k σ H Q q)⟩
theorem PWm {e : Expr} {t t' : TT} (h : PW X e t) (k : ∀ σ H Q, t' σ H Q → t σ H Q) : PW X e t' := ⟨fun wh pins s σ H Q I q => h.run wh pins s σ H Q I (k σ H Q q)⟩
theorem PAm {e : List Expr} {t t' : TA} (h : PA X e t) (k : ∀ σ H Q, t' σ H Q → t σ H Q) : PA X e t' := ⟨fun pos pins s σ H Q I q => h.run pos pins s σ H Q I (k σ H Q q)⟩
theorem PSm {e : Stmt} {t t' : TS} (h : PS X e t) (k : ∀ σ H Q, t' σ H Q → t σ H Q) : PS X e t' := ⟨fun pins s σ H Q I q => h.run pins s σ H Q I (k Q σ H q)⟩

/-! ### names and constants -/
def mVar (i : Nat) : ME := fun env g => match env[i]? with
  | some (.val d) => .ok d g
  | _ => .stuck
/-- looked at only -/
def mPk (i : Nat) : ME := fun env g => match env[i]? with
  | some (.val d) => .ok d g
  | some (.ol ds) => .ok (.lst ds) g
  | some (.oK kvs) => .ok (.dK kvs) g
  | some (.oT kvs) => .ok (.dT kvs) g
  | _ => .stuck
def mC (d : D) : ME := fun _ g => .ok d g
theorem re_var {i : Nat} {σ : L2.St} {H : Hp} {Q : VK} (h : RE C Wx (mVar i) σ H Q) : tVar i σ H Q := by
  obtain ⟨W, env, oas, g, r, S, P⟩ := h
  unfold mVar at P
  split at P
  · rename_i d hd
    obtain ⟨o, v, h1, h2, h3⟩ := S.sl.get hd
    cases h3 with
    | val h => exact ⟨_, h2, P.here S.bs h⟩
  · exact P.elim
theorem rp_pk {i : Nat} {σ : L2.St} {H : Hp} {Q : VK} (h : RP C Wx (mPk i) σ H Q) : tVar i σ H Q := by
  obtain ⟨W, env, oas, g, r, S, P⟩ := h
  have nr : ∀ {a : Addr}, oas[i]? = some (some a) → a ∉ r := fun {a} e z => S.bs.dis a z (S.own a (List.mem_of_getElem? e))
  unfold mPk at P
  split at P
  · rename_i d hd
    obtain ⟨o, v, h1, h2, h3⟩ := S.sl.get hd
    cases h3 with
    | val h => exact ⟨_, h2, P.here S.bs (.of h)⟩
  · rename_i d hd
    obtain ⟨o, v, h1, h2, h3⟩ := S.sl.get hd
    cases h3 with
    | ol h hz q => exact ⟨_, h2, P.here S.bs (.lst h hz (nr h1) q)⟩
  · rename_i d hd
    obtain ⟨o, v, h1, h2, h3⟩ := S.sl.get hd
    cases h3 with
    | oK h hl hz q => exact ⟨_, h2, P.here S.bs (.dK h hl hz (nr h1) q)⟩
  · rename_i d hd
    obtain ⟨o, v, h1, h2, h3⟩ := S.sl.get hd
    cases h3 with
    | oT h hl hz q => exact ⟨_, h2, P.here S.bs (.dT h hl hz (nr h1) q)⟩
  · exact P.elim
theorem rp_of {m : ME} {σ : L2.St} {H : Hp} {Q : VK} (h : RP C Wx m σ H Q) : RE C Wx m σ H Q := by
  obtain ⟨W, env, oas, g, r, S, P⟩ := h
  refine ⟨W, env, oas, g, r, S, ?_⟩
  revert P
  cases m env g with
  | ok d g' => exact fun P v H' r' b s q => P v H' r' b s (.of q)
  | exc c fs g' => exact fun P => P
  | stuck => exact fun P => P
theorem re_c {d : D} {v : V} (hv : ∀ r W H, Rp C r W H d v) {σ : L2.St} {H : Hp} {Q : VK} (h : RE C Wx (mC d) σ H Q) : tC v σ H Q := by
  obtain ⟨W, env, oas, g, r, S, P⟩ := h
  exact Post.here (d := d) (g := g) P S.bs (hv r W H)

/-- the name that stands in the i-th place -/
theorem se_var (i : Nat) {x : Str} {pos : Pos} (hN : X.N[i]? = some x := by rfl) (hv : Vis X.env.scope x := by first | exact Or.inl rfl | exact Or.inr (Or.inl rfl) | exact Or.inr (Or.inr rfl)) (hd : (x == ("__debug__" : Str)) = false := by decide)
    (hcd : (x == ("__classdict__" : Str)) = false := by decide) : PE X (.Name x pos) (RE C Wx (mVar i)) := PEm (pe_var hN hv hd hcd) fun _ _ _ h => re_var h
theorem sp_var (i : Nat) {x : Str} {pos : Pos} (hN : X.N[i]? = some x := by rfl) (hv : Vis X.env.scope x := by first | exact Or.inl rfl | exact Or.inr (Or.inl rfl) | exact Or.inr (Or.inr rfl)) (hd : (x == ("__debug__" : Str)) = false := by decide)
    (hcd : (x == ("__classdict__" : Str)) = false := by decide) : PE X (.Name x pos) (RP C Wx (mPk i)) := PEm (pe_var hN hv hd hcd) fun _ _ _ h => rp_pk h
theorem sp_of {e : Expr} {m : ME} (h : PE X e (RE C Wx m)) : PE X e (RP C Wx m) := PEm h fun _ _ _ h => rp_of h
theorem se_int {i j pos} : PE X (.Constant (.int i) j pos) (RE C Wx (mC (.int i))) := PEm pe_int fun _ _ _ h => re_c (fun _ _ _ => .int i) h
theorem se_bl {i j pos} : PE X (.Constant (.bool i) j pos) (RE C Wx (mC (.bl i))) := PEm pe_bl fun _ _ _ h => re_c (fun _ _ _ => .bl i) h
theorem se_str {i j pos} : PE X (.Constant (.str i) j pos) (RE C Wx (mC (.str i))) := PEm pe_str fun _ _ _ h => re_c (fun _ _ _ => .str i) h
theorem se_non {j pos} : PE X (.Constant .none j pos) (RE C Wx (mC .non)) := PEm pe_non fun _ _ _ h => re_c (fun _ _ _ => .non) h
/-- a number or a text of the module -/
theorem se_gint {x : Str} {i : Int} {t : Tok} {pos : Pos} (hg : Gl X x) (hm : X.mg x = some (.int i t)) (hd : (x == ("__debug__" : Str)) = false := by decide) : PE X (.Name x pos) (RE C Wx (mC (.int i))) := PEm (pe_glob (v := .int i) hg hm ⟨t, rfl⟩ hd) fun _ _ _ h => re_c (fun _ _ _ => .int i) h
theorem se_gstr {x : Str} {i : Str} {t : Tok} {pos : Pos} (hg : Gl X x) (hm : X.mg x = some (.str i t)) (hd : (x == ("__debug__" : Str)) = false := by decide) : PE X (.Name x pos) (RE C Wx (mC (.str i))) := PEm (pe_glob (v := .str i) hg hm ⟨t, rfl⟩ hd) fun _ _ _ h => re_c (fun _ _ _ => .str i) h

/-! ### operators -/
def mBin (f : D → D → Option D) (ma mb : ME) : ME := fun env g => (ma env g).bind fun a g1 => (mb env g1).bind fun b g2 => liftO (f a b) g2
/-- the operation's rule r2 does what f says; the parts are only looked at -/
def OpS (C : Cst) (f : D → D → Option D) (r2 : R2) : Prop := ∀ (Wx : WX) (W : Addr → Prop) (g : G) (r : List Addr) (σ : L2.St) (H : Hp) (da db d : D) (x y : V) (Q : VK), f da db = some d → Bs C W g r H → PRp C r W H da x → PRp C r W H db y → Post C Wx W r σ H (RlE C W) Q (.ok d g) → r2 x y H Q
theorem re_bin {f : D → D → Option D} {r2 : R2} {ma mb : ME} (hs : OpS C f r2) {σ : L2.St} {H : Hp} {Q : VK} (h : RE C Wx (mBin f ma mb) σ H Q) : tOp r2 (RP C Wx ma) (RP C Wx mb) σ H Q := by
  obtain ⟨W, env, oas, g, r, S, P⟩ := h
  refine ⟨W, env, oas, g, r, S, Post.mono (Post.split P) fun v H1 ⟨d, g1, r1, b1, s1, p1, q1⟩ => ⟨W, env, oas, g1, r1, S.step s1 b1, Post.mono (Post.split q1) fun w H2 ⟨e, g2, r2, b2, s2, p2, q2⟩ => ?_⟩⟩
  obtain ⟨z, hz, q3⟩ := liftO_some q2
  exact hs Wx W g2 r2 σ H2 d e z v w Q hz b2 (p1.step s2) p2 q3
theorem se_bin {op : Operator} {a b : Expr} {pos : Pos} {f : D → D → Option D} {r2 : R2} {ma mb : ME} (ho : OpR X (binaryOp op) r2) (hs : OpS C f r2) (ha : PE X a (RP C Wx ma)) (hb : PE X b (RP C Wx mb)) : PE X (.BinOp a op b pos) (RE C Wx (mBin f ma mb)) :=
  PEm (pe_op ho ha hb) fun _ _ _ h => re_bin hs h
theorem se_cmp {op : CmpOp} {a b : Expr} {pos : Pos} {f : D → D → Option D} {r2 : R2} {ma mb : ME} (ho : OpR X (compareOp op) r2) (hs : OpS C f r2) (ha : PE X a (RP C Wx ma)) (hb : PE X b (RP C Wx mb)) (hm : behindInMarks op b = false := by rfl) : PE X (.Compare a [op] [b] pos) (RE C Wx (mBin f ma mb)) :=
  PEm (pe_cmpR ho ha hb hm) fun _ _ _ h => re_bin hs h
/-- a test by its value -/
def mTst (m : ME) : MT := fun env g => (m env g).bind fun d g1 => match d with
  | .bl b => .ok b g1
  | _ => .stuck
theorem rt_tst {m : ME} {t : TE} (k : ∀ σ H Q, RE C Wx m σ H Q → t σ H Q) {σ : L2.St} {H : Hp} {Q : Bool → Hp → Prop} (h : RT C Wx (mTst m) σ H Q) : tTest t σ H Q := by
  obtain ⟨W, env, oas, g, r, S, P⟩ := h
  refine k σ H _ ⟨W, env, oas, g, r, S, Post.mono (Post.split P) fun v H1 ⟨d, g1, r1, b1, s1, p1, q1⟩ => ?_⟩
  cases d with
  | bl b => exact ⟨b, p1.isBl, q1.here b1 rfl⟩
  | _ => exact q1.elim
theorem st_cmp {op : CmpOp} {a b : Expr} {pos : Pos} {f : D → D → Option D} {r2 : R2} {ma mb : ME} (ho : OpR X (compareOp op) r2) (hs : OpS C f r2) (ha : PE X a (RP C Wx ma)) (hb : PE X b (RP C Wx mb)) (hm : behindInMarks op b = false := by rfl) : PT X (.Compare a [op] [b] pos) (RT C Wx (mTst (mBin f ma mb))) :=
  PTm (pt_cmpR ho ha hb hm) fun _ _ _ h => rt_tst (fun _ _ _ q => re_bin hs q) h
theorem st_val {e : Expr} {m : ME} (h : PE X e (RE C Wx m)) (he : ∀ whole, isTrue e X.env whole = (do let v ← whole; standAt e.pos; holding [v] (truthy v)) := by intro _; rfl) : PT X e (RT C Wx (mTst m)) :=
  PTm (pt_val h he) fun _ _ _ h => rt_tst (fun _ _ _ q => q) h
/-- a op b op' c -/
def mChain (f f' : D → D → Option D) (ma mb mc : ME) : ME := fun env g => (ma env g).bind fun a g1 => (mb env g1).bind fun b g2 => (liftO (f a b) g2).bind fun k g3 => match k with
  | .bl true => (mc env g3).bind fun c g4 => liftO (f' b c) g4
  | .bl false => .ok (.bl false) g3
  | _ => .stuck
/-- a test gives a truth value and leaves all as it is -/
def OpB (C : Cst) (f : D → D → Option D) (r2 : R2) : Prop := ∀ (W : Addr → Prop) (g : G) (r : List Addr) (H : Hp) (da db d : D) (x y : V) (Q : VK), f da db = some d → Bs C W g r H → PRp C r W H da x → PRp C r W H db y → ∃ b, d = .bl b ∧ (Q (.bl b) H → r2 x y H Q)
theorem OpB.s {f : D → D → Option D} {r2 : R2} (h : OpB C f r2) : OpS C f r2 := fun Wx W g r σ H da db d x y Q e b p1 p2 P => by
  obtain ⟨k, rfl, hk⟩ := h W g r H da db d x y Q e b p1 p2
  exact hk (P.here b (.bl k))
theorem re_chain {f f' : D → D → Option D} {r2 r3 : R2} {ma mb mc : ME} (hs : OpB C f r2) (hs' : OpB C f' r3) {σ : L2.St} {H : Hp} {Q : VK} (h : RE C Wx (mChain f f' ma mb mc) σ H Q) : tChain r2 r3 (RP C Wx ma) (RP C Wx mb) (RP C Wx mc) σ H Q := by
  obtain ⟨W, env, oas, g, r, S, P⟩ := h
  refine ⟨W, env, oas, g, r, S, Post.mono (Post.split P) fun v H1 ⟨d, g1, r1, b1, s1, p1, q1⟩ => ⟨W, env, oas, g1, r1, S.step s1 b1, Post.mono (Post.split q1) fun w H2 ⟨e, g2, r2, b2, s2, p2, q2⟩ => ?_⟩⟩
  dsimp only at q2
  cases hf : f d e with
  | none => rw [hf] at q2; exact q2.elim
  | some z =>
    rw [hf] at q2
    obtain ⟨k, rfl, hk⟩ := hs W g2 r2 H2 d e z v w (fun z H3 => ∃ k, z = .bl k ∧ (if k = true then RP C Wx mc σ H3 fun w' H4 => r3 w w' H4 Q else Q (.bl false) H3)) hf b2 (p1.step s2) p2
    refine hk ⟨k, rfl, ?_⟩
    cases k with
    | false => exact iteF (Post.here (d := D.bl false) (g := g2) q2 b2 (.bl false))
    | true =>
      refine iteT ⟨W, env, oas, g2, r2, (S.step s1 b1).step s2 b2, Post.mono (Post.split (show Post C Wx W r2 σ H2 (RlE C W) Q ((mc env g2).bind fun c g4 => liftO (f' e c) g4) from q2)) fun w' H4 ⟨c, g4, r4, b4, s4, p4, q4⟩ => ?_⟩
      obtain ⟨z, hz, q5⟩ := liftO_some q4
      obtain ⟨k, rfl, hk⟩ := hs' W g4 r4 H4 e c z w w' Q hz b4 (p2.step s4) p4
      exact hk (q5.here b4 (.bl k))
theorem se_chain {op op' : CmpOp} {a b c : Expr} {pos : Pos} {f f' : D → D → Option D} {r2 r3 : R2} {ma mb mc : ME} (ho : OpR X (compareOp op) r2) (hs : OpB C f r2) (ho' : OpR X (compareOp op') r3) (hs' : OpB C f' r3) (ha : PE X a (RP C Wx ma)) (hb : PE X b (RP C Wx mb)) (hc : PE X c (RP C Wx mc))
    (hm : lastMarks [op, op'] [b, c] = false := by with_unfolding_all rfl) : PE X (.Compare a [op, op'] [b, c] pos) (RE C Wx (mChain f f' ma mb mc)) :=
  PEm (pe_chain ho ho' ha hb hc hm) fun _ _ _ h => re_chain hs hs' h
theorem st_chain {op op' : CmpOp} {a b c : Expr} {pos : Pos} {f f' : D → D → Option D} {r2 r3 : R2} {ma mb mc : ME} (ho : OpR X (compareOp op) r2) (hs : OpB C f r2) (ho' : OpR X (compareOp op') r3) (hs' : OpB C f' r3) (ha : PE X a (RP C Wx ma)) (hb : PE X b (RP C Wx mb)) (hc : PE X c (RP C Wx mc))
    (hm : lastMarks [op, op'] [b, c] = false := by with_unfolding_all rfl) : PT X (.Compare a [op, op'] [b, c] pos) (RT C Wx (mTst (mChain f f' ma mb mc))) :=
  PTm (pt_chain ho ho' ha hb hc hm) fun _ _ _ h => rt_tst (fun _ _ _ q => re_chain hs hs' q) h

/-! ### and, or, not, if -/
def mAndT (ma mb : MT) : MT := fun env g => (ma env g).bind fun a g1 => if a then mb env g1 else .ok false g1
def mOrT (ma mb : MT) : MT := fun env g => (ma env g).bind fun a g1 => if a then .ok true g1 else mb env g1
def mNotT (ma : MT) : MT := fun env g => (ma env g).bind fun a g1 => .ok (!a) g1
/-- the value of a test -/
def mBl (m : MT) : ME := fun env g => (m env g).bind fun b g1 => .ok (.bl b) g1
def mIf (c : MT) (ma mb : ME) : ME := fun env g => (c env g).bind fun b g1 => if b then ma env g1 else mb env g1
theorem rt_and {ma mb : MT} {σ : L2.St} {H : Hp} {Q : Bool → Hp → Prop} (h : RT C Wx (mAndT ma mb) σ H Q) : tAnd (RT C Wx ma) (RT C Wx mb) σ H Q := by
  obtain ⟨W, env, oas, g, r, S, P⟩ := h
  refine ⟨W, env, oas, g, r, S, Post.mono (Post.split P) fun c H1 ⟨d, g1, r1, b1, s1, p1, q1⟩ => ?_⟩
  subst p1
  cases c with
  | true => exact iteT ⟨W, env, oas, g1, r1, S.step s1 b1, q1⟩
  | false => exact iteF (Post.here (d := false) (g := g1) q1 b1 rfl)
theorem rt_or {ma mb : MT} {σ : L2.St} {H : Hp} {Q : Bool → Hp → Prop} (h : RT C Wx (mOrT ma mb) σ H Q) : tOr (RT C Wx ma) (RT C Wx mb) σ H Q := by
  obtain ⟨W, env, oas, g, r, S, P⟩ := h
  refine ⟨W, env, oas, g, r, S, Post.mono (Post.split P) fun c H1 ⟨d, g1, r1, b1, s1, p1, q1⟩ => ?_⟩
  subst p1
  cases c with
  | true => exact iteT (Post.here (d := true) (g := g1) q1 b1 rfl)
  | false => exact iteF ⟨W, env, oas, g1, r1, S.step s1 b1, q1⟩
theorem rt_not {ma : MT} {σ : L2.St} {H : Hp} {Q : Bool → Hp → Prop} (h : RT C Wx (mNotT ma) σ H Q) : tNot (RT C Wx ma) σ H Q := by
  obtain ⟨W, env, oas, g, r, S, P⟩ := h
  refine ⟨W, env, oas, g, r, S, Post.mono (Post.split P) fun c H1 ⟨d, g1, r1, b1, s1, p1, q1⟩ => ?_⟩
  subst p1
  exact Post.here (d := !c) (g := g1) q1 b1 rfl
theorem st_and1 {a : Expr} {pos : Pos} {ma : MT} (ha : PT X a (RT C Wx ma)) : PW X (.BoolOp .And [a] pos) (RT C Wx ma) := pw_and1 ha
theorem st_or1 {a : Expr} {pos : Pos} {ma : MT} (ha : PT X a (RT C Wx ma)) : PW X (.BoolOp .Or [a] pos) (RT C Wx ma) := pw_or1 ha
theorem st_and {a b : Expr} {rest : List Expr} {pos : Pos} {ma mb : MT} (ha : PT X a (RT C Wx ma)) (hb : PW X (.BoolOp .And (b :: rest) pos) (RT C Wx mb)) : PW X (.BoolOp .And (a :: b :: rest) pos) (RT C Wx (mAndT ma mb)) := PWm (pw_and ha hb) fun _ _ _ h => rt_and h
theorem st_or {a b : Expr} {rest : List Expr} {pos : Pos} {ma mb : MT} (ha : PT X a (RT C Wx ma)) (hb : PW X (.BoolOp .Or (b :: rest) pos) (RT C Wx mb)) : PW X (.BoolOp .Or (a :: b :: rest) pos) (RT C Wx (mOrT ma mb)) := PWm (pw_or ha hb) fun _ _ _ h => rt_or h
theorem st_not {a : Expr} {pos : Pos} {ma : MT} (ha : PT X a (RT C Wx ma)) : PT X (.UnaryOp .Not a pos) (RT C Wx (mNotT ma)) := PTm (pt_not ha) fun _ _ _ h => rt_not h
/-- as values: truth values -/
def mAndV (ma mb : ME) : ME := fun env g => (ma env g).bind fun a g1 => match a with
  | .bl true => mb env g1
  | .bl false => .ok (.bl false) g1
  | _ => .stuck
def mOrV (ma mb : ME) : ME := fun env g => (ma env g).bind fun a g1 => match a with
  | .bl false => mb env g1
  | .bl true => .ok (.bl true) g1
  | _ => .stuck
def mNotV (ma : ME) : ME := fun env g => (ma env g).bind fun a g1 => match a with
  | .bl b => .ok (.bl (!b)) g1
  | _ => .stuck
theorem re_andV {ma mb : ME} {σ : L2.St} {H : Hp} {Q : VK} (h : RE C Wx (mAndV ma mb) σ H Q) : tAndV (RE C Wx ma) (RE C Wx mb) σ H Q := by
  obtain ⟨W, env, oas, g, r, S, P⟩ := h
  refine ⟨W, env, oas, g, r, S, Post.mono (Post.split P) fun c H1 ⟨d, g1, r1, b1, s1, p1, q1⟩ => ?_⟩
  cases d with
  | bl b =>
    refine ⟨b, p1.isBl, ?_⟩
    cases b with
    | true => exact iteT ⟨W, env, oas, g1, r1, S.step s1 b1, q1⟩
    | false => exact iteF (Post.here (d := D.bl false) (g := g1) q1 b1 (.bl false))
  | _ => exact q1.elim
theorem re_orV {ma mb : ME} {σ : L2.St} {H : Hp} {Q : VK} (h : RE C Wx (mOrV ma mb) σ H Q) : tOrV (RE C Wx ma) (RE C Wx mb) σ H Q := by
  obtain ⟨W, env, oas, g, r, S, P⟩ := h
  refine ⟨W, env, oas, g, r, S, Post.mono (Post.split P) fun c H1 ⟨d, g1, r1, b1, s1, p1, q1⟩ => ?_⟩
  cases d with
  | bl b =>
    refine ⟨b, p1.isBl, ?_⟩
    cases b with
    | false => exact iteF ⟨W, env, oas, g1, r1, S.step s1 b1, q1⟩
    | true => exact iteT (Post.here (d := D.bl true) (g := g1) q1 b1 (.bl true))
  | _ => exact q1.elim
theorem re_notV {ma : ME} {σ : L2.St} {H : Hp} {Q : VK} (h : RE C Wx (mNotV ma) σ H Q) : tNotV (RE C Wx ma) σ H Q := by
  obtain ⟨W, env, oas, g, r, S, P⟩ := h
  refine ⟨W, env, oas, g, r, S, Post.mono (Post.split P) fun c H1 ⟨d, g1, r1, b1, s1, p1, q1⟩ => ?_⟩
  cases d with
  | bl b => exact ⟨b, p1.isBl, Post.here (d := D.bl (!b)) (g := g1) q1 b1 (.bl _)⟩
  | _ => exact q1.elim
theorem se_one {op} {a : Expr} {pos : Pos} {m : ME} (h : PE X a (RE C Wx m)) : PE X (.BoolOp op [a] pos) (RE C Wx m) := pe_one h
theorem se_and {a b : Expr} {rest : List Expr} {pos : Pos} {ma mb : ME} (ha : PE X a (RE C Wx ma)) (hb : PE X (.BoolOp .And (b :: rest) pos) (RE C Wx mb)) : PE X (.BoolOp .And (a :: b :: rest) pos) (RE C Wx (mAndV ma mb)) := PEm (pe_and ha hb) fun _ _ _ h => re_andV h
theorem se_or {a b : Expr} {rest : List Expr} {pos : Pos} {ma mb : ME} (ha : PE X a (RE C Wx ma)) (hb : PE X (.BoolOp .Or (b :: rest) pos) (RE C Wx mb)) : PE X (.BoolOp .Or (a :: b :: rest) pos) (RE C Wx (mOrV ma mb)) := PEm (pe_or ha hb) fun _ _ _ h => re_orV h
theorem se_not {a : Expr} {pos : Pos} {ma : ME} (ha : PE X a (RE C Wx ma)) : PE X (.UnaryOp .Not a pos) (RE C Wx (mNotV ma)) := PEm (pe_not ha) fun _ _ _ h => re_notV h
theorem se_if {c a b : Expr} {pos : Pos} {mc : MT} {ma mb : ME} (hc : PT X c (RT C Wx mc)) (ha : PE X a (RE C Wx ma)) (hb : PE X b (RE C Wx mb)) : PE X (.IfExp c a b pos) (RE C Wx (mIf mc ma mb)) := PEm (pe_ifExp hc ha hb) fun σ H Q h => by
  obtain ⟨W, env, oas, g, r, S, P⟩ := h
  refine ⟨W, env, oas, g, r, S, Post.mono (Post.split P) fun c H1 ⟨d, g1, r1, b1, s1, p1, q1⟩ => ?_⟩
  subst p1
  cases c with
  | true => exact iteT ⟨W, env, oas, g1, r1, S.step s1 b1, q1⟩
  | false => exact iteF ⟨W, env, oas, g1, r1, S.step s1 b1, q1⟩

/-! ### argument lists, displays -/
def mNil : MA := fun _ g => .ok [] g
def mCons (m : ME) (ms : MA) : MA := fun env g => (m env g).bind fun d g1 => (ms env g1).bind fun ds g2 => .ok (d :: ds) g2
theorem sa_nil : PA X [] (RA C Wx mNil) := PAm pa_nil fun σ H Q h => by
  obtain ⟨W, env, oas, g, r, S, P⟩ := h
  exact Post.here (d := []) (g := g) P S.bs .nil
theorem sa_cons {e : Expr} {es : List Expr} {m : ME} {ms : MA} (ha : PE X e (RE C Wx m)) (hr : PA X es (RA C Wx ms)) (hs : starEach (e :: es) X.env = (false, eval e X.env) :: starEach es X.env := by rfl) : PA X (e :: es) (RA C Wx (mCons m ms)) :=
  PAm (pa_cons ha hr hs) fun σ H Q h => by
    obtain ⟨W, env, oas, g, r, S, P⟩ := h
    refine ⟨W, env, oas, g, r, S, Post.mono (Post.split P) fun v H1 ⟨d, g1, r1, b1, s1, p1, q1⟩ => ⟨W, env, oas, g1, r1, S.step s1 b1, Post.mono (Post.split q1) fun w H2 ⟨e, g2, r2, b2, s2, p2, q2⟩ => ?_⟩⟩
    exact Post.here (d := d :: e) (g := g2) q2 b2 (.cons (p1.step s2) p2)
/-- a display's items are not more than the line -/
def mTup (ms : MA) : ME := fun env g => (ms env g).bind fun ds g1 => if ds.length ≤ 1000000 then .ok (.tup ds) g1 else .stuck
def mLst (ms : MA) : ME := fun env g => (ms env g).bind fun ds g1 => if ds.length ≤ 1000000 then .ok (.lst ds) g1 else .stuck
theorem mil {n : Nat} (h : n ≤ 1000000) : n ≤ sizeLine := by rw [sizeLine_eq]; omega
theorem mil' {n : Nat} (h : n < 1000000) : n < sizeLine := by rw [sizeLine_eq]; omega
theorem se_tup {es : List Expr} {x1} {pos : Pos} {ms : MA} (h : PA X es (RA C Wx ms)) : PE X (.Tuple es x1 pos) (RE C Wx (mTup ms)) := PEm (pe_tup h) fun σ H Q h => by
  obtain ⟨W, env, oas, g, r, S, P⟩ := h
  refine ⟨W, env, oas, g, r, S, Post.mono (Post.split P) fun v H1 ⟨d, g1, r1, b1, s1, p1, q1⟩ => ?_⟩
  dsimp only at q1
  split at q1
  · rename_i hl
    have hz : v.length ≤ sizeLine := by rw [← p1.length]; exact mil hl
    exact ⟨hz, fun p hp => q1 _ _ r1 (b1.upd hp) (Step.upd hp) (Rp.newT b1 hp hz p1)⟩
  · exact q1.elim
theorem se_lst {es : List Expr} {pos : Pos} {ms : MA} (h : PA X es (RA C Wx ms)) : PE X (.List es pos) (RE C Wx (mLst ms)) := PEm (pe_lst h) fun σ H Q h => by
  obtain ⟨W, env, oas, g, r, S, P⟩ := h
  refine ⟨W, env, oas, g, r, S, Post.mono (Post.split P) fun v H1 ⟨d, g1, r1, b1, s1, p1, q1⟩ => ?_⟩
  dsimp only at q1
  split at q1
  · rename_i hl
    have hz : v.length ≤ sizeLine := by rw [← p1.length]; exact mil hl
    exact ⟨hz, fun p hp => q1 _ _ r1 (b1.upd hp) (Step.upd hp) (Rp.newL b1 hp hz p1)⟩
  · exact q1.elim
end
end GT

/-! GtC: operators, comparisons, items, slices. -/
namespace GT
open PySem PySem.Spec PyProof.Rows L2

/-! ### data as the library's data -/
mutual
def D.py : D → Option PyData
  | .non => some .none
  | .bl b => some (.bool b)
  | .int i => some (.int i)
  | .str x => some (.str x)
  | .lst xs => (D.pys xs).map .list
  | .tup xs => (D.pys xs).map .tuple
  | .scr _ => none
  | .dK _ => none
  | .dT _ => none
  | .gr _ => none
  | .clo _ _ => none
  | .exn _ _ => none
def D.pys : List D → Option (List PyData)
  | [] => some []
  | d :: ds => match D.py d, D.pys ds with
    | some p, some ps => some (p :: ps)
    | _, _ => none
end
section
variable {C : Cst} {r : List Addr} {W : Addr → Prop} {H : Hp}
mutual
theorem Rp.dp : ∀ {d : D} {v : V} {p : PyData}, Rp C r W H d v → D.py d = some p → Dp C.K H v p
  | _, _, _, .non, e => by simp only [D.py] at e; cases e; exact .non
  | _, _, _, .bl b, e => by simp only [D.py] at e; cases e; exact .bl b
  | _, _, _, .int i, e => by simp only [D.py] at e; cases e; exact .int i
  | _, _, _, .str x, e => by simp only [D.py] at e; cases e; exact .str x
  | _, _, _, .lst h _ _ _ q, e => by
    simp only [D.py, Option.map_eq_some_iff] at e
    obtain ⟨ps, e1, rfl⟩ := e
    exact .lst (.inl (.inl h)) (RpL.dp q e1)
  | _, _, _, .tup h _ _ _ q, e => by
    simp only [D.py, Option.map_eq_some_iff] at e
    obtain ⟨ps, e1, rfl⟩ := e
    exact .tup (.inl (.inl h)) (RpL.dp q e1)
  | _, _, _, .scr _ _ _ _, e => by simp only [D.py] at e; cases e
  | _, _, _, .scrK _ _ _ _ _ _, e => by simp only [D.py] at e; cases e
  | _, _, _, .dK _ _ _ _ _ _, e => by simp only [D.py] at e; cases e
  | _, _, _, .dT _ _ _ _ _ _, e => by simp only [D.py] at e; cases e
  | _, _, _, .gr _, e => by simp only [D.py] at e; cases e
  | _, _, _, .clo _ _ _ _ _ _ _ _ _ _ _ _ _, e => by simp only [D.py] at e; cases e
  | _, _, _, .exn0 _ _ _ _, e => by simp only [D.py] at e; cases e
  | _, _, _, .exn _ _ _ _ _ _ _ _ _, e => by simp only [D.py] at e; cases e
theorem RpL.dp : ∀ {ds : List D} {vs : List V} {ps : List PyData}, RpL C r W H ds vs → D.pys ds = some ps → DpAll C.K H vs ps
  | _, _, _, .nil, e => by simp only [D.pys] at e; cases e; exact .nil
  | _, _, _, .cons (d := d) (ds := ds) h t, e => by
    rw [D.pys] at e
    cases e1 : D.py d with
    | none => rw [e1] at e; simp at e
    | some p =>
      cases e2 : D.pys ds with
      | none => rw [e1, e2] at e; simp at e
      | some qs =>
        rw [e1, e2] at e
        cases e
        exact .cons (Rp.dp h e1) (RpL.dp t e2)
end
theorem PRp.dp {d : D} {v : V} {p : PyData} (h : PRp C r W H d v) (e : D.py d = some p) : Dp C.K H v p := by
  cases h with
  | of h => exact h.dp e
  | lst h hz hr q =>
    simp only [D.py, Option.map_eq_some_iff] at e
    obtain ⟨ps, e1, rfl⟩ := e
    exact .lst (.inl (.inl h)) (q.dp e1)
  | dK => simp only [D.py] at e; cases e
  | dT => simp only [D.py] at e; cases e
end
def D.eqv (a b : D) : Option Bool := match D.py a, D.py b with
  | some p, some q => if SeqAt.shaped p && SeqAt.shaped q then some (PyData.eqv p q) else none
  | _, _ => none
def fEq (a b : D) : Option D := (D.eqv a b).map .bl
def fNe (a b : D) : Option D := (D.eqv a b).map fun k => .bl (!k)
theorem eqv_some {a b : D} {k : Bool} (h : D.eqv a b = some k) : ∃ p q, D.py a = some p ∧ D.py b = some q ∧ SeqAt.shaped p = true ∧ SeqAt.shaped q = true ∧ PyData.eqv p q = k := by
  unfold D.eqv at h
  split at h
  · rename_i p q e1 e2
    split at h
    · rename_i hs
      rw [Bool.and_eq_true] at hs
      exact ⟨p, q, e1, e2, hs.1, hs.2, Option.some.inj h⟩
    · cases h
  · cases h
section
variable {C : Cst}
theorem os_eq : OpB C fEq (rEqD C.K) := fun W g r H da db d x y Q e b p1 p2 => by
  unfold fEq at e
  rw [Option.map_eq_some_iff] at e
  obtain ⟨k, e1, rfl⟩ := e
  obtain ⟨p, q, h1, h2, h3, h4, rfl⟩ := eqv_some e1
  exact ⟨_, rfl, fun z => ⟨p, q, p1.dp h1, p2.dp h2, h3, h4, z⟩⟩
theorem os_ne : OpB C fNe (rNeD C.K) := fun W g r H da db d x y Q e b p1 p2 => by
  unfold fNe at e
  rw [Option.map_eq_some_iff] at e
  obtain ⟨k, e1, rfl⟩ := e
  obtain ⟨p, q, h1, h2, h3, h4, rfl⟩ := eqv_some e1
  exact ⟨_, rfl, fun z => ⟨p, q, p1.dp h1, p2.dp h2, h3, h4, z⟩⟩

/-! ### ints; tuples of ints in order -/
def D.ints : List D → Option (List Int)
  | [] => some []
  | .int i :: ds => (D.ints ds).map (i :: ·)
  | _ :: _ => none
theorem ints_rp {r : List Addr} {W : Addr → Prop} {H : Hp} : ∀ {ds : List D} {vs : List V} {ns : List Int}, RpL C r W H ds vs → D.ints ds = some ns → vs = ns.map V.int
  | _, _, _, .nil, e => by simp only [D.ints] at e; cases e; rfl
  | _, _, _, .cons (d := d) (ds := ds) h t, e => by
    cases d with
    | int i =>
      simp only [D.ints, Option.map_eq_some_iff] at e
      obtain ⟨ns, e1, rfl⟩ := e
      rw [h.isInt, ints_rp t e1]
      rfl
    | _ => simp [D.ints] at e
def cmpI (f : Int → Int → Bool) (a b : D) : Option D := match a, b with
  | .int i, .int j => some (.bl (f i j))
  | _, _ => none
theorem os_cmpI (f : Int → Int → Bool) : OpB C (cmpI f) (rI0 fun i j => .bl (f i j)) := fun W g r H da db d x y Q e b p1 p2 => by
  unfold cmpI at e
  split at e
  · cases e
    exact ⟨_, rfl, fun z => ⟨_, _, p1.isInt, p2.isInt, z⟩⟩
  · cases e
def fLt (a b : D) : Option D := match a, b with
  | .int i, .int j => some (.bl (decide (i < j)))
  | .tup xs, .tup ys => match D.ints xs, D.ints ys with
    | some ns, some ms => some (.bl (HT.lexLt ns ms))
    | _, _ => none
  | _, _ => none
abbrev fLe := cmpI fun i j => decide (i ≤ j)
abbrev fGt := cmpI fun i j => decide (j < i)
abbrev fGe := cmpI fun i j => decide (j ≤ i)
def rLtA (K : PySem.W.Frag) : R2 := fun x y H Q => rI0 (fun i j => .bl (decide (i < j))) x y H Q ∨ rLtT K x y H Q
theorem op_ltA {X : Cx} (hu : X.A.units < cLine) : OpR X (compareOp .Lt) (rLtA X.K) := op_lt.or (op_ltT hu)
theorem os_lt : OpB C fLt (rLtA C.K) := fun W g r H da db d x y Q e b p1 p2 => by
  unfold fLt at e
  split at e
  · cases e
    exact ⟨_, rfl, fun z => .inl ⟨_, _, p1.isInt, p2.isInt, z⟩⟩
  · split at e
    · rename_i ns ms e1 e2
      cases e
      obtain ⟨a, us, rfl, h1, _, q1⟩ := p1.isTup
      obtain ⟨a', us', rfl, h2, _, q2⟩ := p2.isTup
      refine ⟨_, rfl, fun z => .inr ⟨a, a', ns, ms, rfl, rfl, .inl (.inl ?_), .inl (.inl ?_), z⟩⟩
      · rw [← ints_rp q1 e1]; exact h1
      · rw [← ints_rp q2 e2]; exact h2
    · cases e
  · cases e
/-- x is None -/
def D.isN : D → Bool
  | .non => true
  | _ => false
def fIsN (a b : D) : Option D := match b with
  | .non => some (.bl a.isN)
  | _ => none
def fNotN (a b : D) : Option D := match b with
  | .non => some (.bl (!a.isN))
  | _ => none
theorem non_iff {r : List Addr} {W : Addr → Prop} {H : Hp} {d : D} {v : V} (h : PRp C r W H d v) : decide (v = .non) = d.isN := by
  cases h with
  | of h => cases h <;> rfl
  | lst => rfl
  | dK => rfl
  | dT => rfl
theorem os_isN : OpB C fIsN (fun x y H Q => y = .non ∧ Q (.bl (decide (x = .non))) H) := fun W g r H da db d x y Q e b p1 p2 => by
  unfold fIsN at e
  split at e
  · cases e
    refine ⟨_, rfl, fun z => ⟨p2.isNon, ?_⟩⟩
    rw [non_iff p1]; exact z
  · cases e
theorem os_notN : OpB C fNotN (fun x y H Q => y = .non ∧ Q (.bl (!decide (x = .non))) H) := fun W g r H da db d x y Q e b p1 p2 => by
  unfold fNotN at e
  split at e
  · cases e
    refine ⟨_, rfl, fun z => ⟨p2.isNon, ?_⟩⟩
    rw [non_iff p1]; exact z
  · cases e

/-! ### dicts -/
def keyOf : D → Option Key
  | .int i => some (.inl i)
  | .str x => some (.inr x)
  | _ => none
def keysOf : List D → Option (List Key)
  | [] => some []
  | d :: ds => match keyOf d, keysOf ds with
    | some k, some ks => some (k :: ks)
    | _, _ => none
def tkeyOf : D → Option (List Key)
  | .tup ds => keysOf ds
  | _ => none
theorem keyOf_rp {r : List Addr} {W : Addr → Prop} {H : Hp} {d : D} {v : V} {k : Key} (h : PRp C r W H d v) (e : keyOf d = some k) : v = kV k := by
  unfold keyOf at e
  split at e
  · cases e; exact h.isInt
  · cases e; exact h.isStr
  · cases e
theorem keysOf_rp {r : List Addr} {W : Addr → Prop} {H : Hp} : ∀ {ds : List D} {vs : List V} {ks : List Key}, RpL C r W H ds vs → keysOf ds = some ks → vs = ks.map kV
  | _, _, _, .nil, e => by simp only [keysOf] at e; cases e; rfl
  | _, _, _, .cons (d := d) (ds := ds) h t, e => by
    rw [keysOf] at e
    cases e1 : keyOf d with
    | none => rw [e1] at e; simp at e
    | some k =>
      cases e2 : keysOf ds with
      | none => rw [e1, e2] at e; simp at e
      | some ks =>
        rw [e1, e2] at e
        cases e
        rw [keyOf_rp (.of h) e1, keysOf_rp t e2]
        rfl
section
variable {κ : Type} [DecidableEq κ]
def valD {α : Type} (kvs : List (κ × α)) (k : κ) : Option α := (kvs.find? fun kv => decide (kv.1 = k)).map (·.2)
def putD {α : Type} (kvs : List (κ × α)) (k : κ) (v : α) : List (κ × α) :=
  if (kvs.any fun kv => decide (kv.1 = k)) = true then kvs.map (fun kv => if kv.1 = k then (kv.1, v) else kv) else kvs ++ [(k, v)]
theorem valD_rp {r : List Addr} {W : Addr → Prop} {H : Hp} (k : κ) : ∀ {ks : List (κ × D)} {xs : List (κ × V)}, ks.map (·.1) = xs.map (·.1) → RpL C r W H (ks.map (·.2)) (xs.map (·.2)) →
    (valD ks k = none ∧ valV xs k = none) ∨ ∃ d v, valD ks k = some d ∧ valV xs k = some v ∧ Rp C r W H d v
  | [], [], _, _ => .inl ⟨rfl, rfl⟩
  | [], _ :: _, e, _ => by simp at e
  | _ :: _, [], e, _ => by simp at e
  | p :: ks, q :: xs, e, h => by
    simp only [List.map_cons, List.cons.injEq] at e
    simp only [List.map_cons] at h
    cases h with
    | cons h t =>
      by_cases z : q.1 = k
      · have z' : p.1 = k := e.1.trans z
        refine .inr ⟨p.2, q.2, by simp [valD, z'], valV_pos z, h⟩
      · have z' : ¬ p.1 = k := fun w => z (e.1.symm.trans w)
        have e1 : valD (p :: ks) k = valD ks k := by simp [valD, z']
        rw [e1, valV_neg z]
        exact valD_rp k e.2 t
theorem any_rp (k : κ) : ∀ {ks : List (κ × D)} {xs : List (κ × V)}, ks.map (·.1) = xs.map (·.1) → (ks.any fun kv => decide (kv.1 = k)) = (xs.any fun kv => decide (kv.1 = k))
  | [], [], _ => rfl
  | [], _ :: _, e => by simp at e
  | _ :: _, [], e => by simp at e
  | p :: ks, q :: xs, e => by
    simp only [List.map_cons, List.cons.injEq] at e
    rw [List.any_cons, List.any_cons, any_rp k e.2, e.1]
theorem repl_rp {r : List Addr} {W : Addr → Prop} {H : Hp} (k : κ) {d : D} {v : V} (hd : Rp C r W H d v) : ∀ {ks : List (κ × D)} {xs : List (κ × V)}, ks.map (·.1) = xs.map (·.1) → RpL C r W H (ks.map (·.2)) (xs.map (·.2)) →
    (ks.map (fun kv => if kv.1 = k then (kv.1, d) else kv)).map (·.1) = (xs.map (fun kv => if kv.1 = k then (kv.1, v) else kv)).map (·.1) ∧
    RpL C r W H ((ks.map (fun kv => if kv.1 = k then (kv.1, d) else kv)).map (·.2)) ((xs.map (fun kv => if kv.1 = k then (kv.1, v) else kv)).map (·.2))
  | [], [], _, _ => ⟨rfl, .nil⟩
  | [], _ :: _, e, _ => by simp at e
  | _ :: _, [], e, _ => by simp at e
  | p :: ks, q :: xs, e, h => by
    simp only [List.map_cons, List.cons.injEq] at e
    simp only [List.map_cons] at h
    cases h with
    | cons h t =>
      obtain ⟨i1, i2⟩ := repl_rp k hd e.2 t
      by_cases z : q.1 = k
      · have z' : p.1 = k := e.1.trans z
        simp only [List.map_cons, z, z', if_true]
        exact ⟨by rw [i1], .cons hd i2⟩
      · have z' : ¬ p.1 = k := fun w => z (e.1.symm.trans w)
        simp only [List.map_cons, z, z', if_false]
        exact ⟨by rw [e.1, i1], .cons h i2⟩
theorem putD_rp {r : List Addr} {W : Addr → Prop} {H : Hp} (k : κ) {d : D} {v : V} (hd : Rp C r W H d v) {ks : List (κ × D)} {xs : List (κ × V)} (e : ks.map (·.1) = xs.map (·.1)) (h : RpL C r W H (ks.map (·.2)) (xs.map (·.2))) :
    (putD ks k d).map (·.1) = (putK xs k v).map (·.1) ∧ RpL C r W H ((putD ks k d).map (·.2)) ((putK xs k v).map (·.2)) := by
  unfold putD putK
  rw [any_rp k e]
  split
  · exact repl_rp k hd e h
  · refine ⟨by simp [e], ?_⟩
    rw [List.map_append, List.map_append]
    exact h.append (.cons hd .nil)
end
theorem dgetK {H : Hp} {a : Addr} {kvs : List (Key × V)} {k : Key} (e : Rd H a (.dK kvs)) : DGet H a (kV k) (valV kvs k) := .inl ⟨kvs, k, e, rfl, rfl⟩
theorem dgetT {H : Hp} {a b : Addr} {kvs : List (List Key × V)} {k : List Key} (e : Rd H a (.dT kvs)) (eb : H b = some (.tup (k.map kV))) : DGet H a (.ref b) (valV kvs k) := .inr ⟨kvs, k, b, e, rfl, eb, rfl⟩
/-- the entry of a dict under a key -/
def dGet (d k : D) : Option (Option D) := match d with
  | .dK kvs => (keyOf k).map fun q => valD kvs q
  | .dT kvs => (tkeyOf k).map fun q => valD kvs q
  | _ => none
theorem dGet_rp {r : List Addr} {W : Addr → Prop} {H : Hp} {d k : D} {v y : V} {o : Option D} (hd : PRp C r W H d v) (hk : PRp C r W H k y) (e : dGet d k = some o) :
    ∃ a, v = .ref a ∧ ((o = none ∧ DGet H a y none) ∨ ∃ z w, o = some z ∧ Rp C r W H z w ∧ DGet H a y (some w)) := by
  unfold dGet at e
  split at e
  · rename_i kvs
    rw [Option.map_eq_some_iff] at e
    obtain ⟨q, e1, rfl⟩ := e
    obtain ⟨a, xs, rfl, h1, h2, _, _, h3⟩ := hd.isDK
    refine ⟨a, rfl, ?_⟩
    rw [keyOf_rp hk e1]
    rcases valD_rp q h2 h3 with ⟨i1, i2⟩ | ⟨z, w, i1, i2, i3⟩
    · exact .inl ⟨i1, by rw [← i2]; exact dgetK h1⟩
    · exact .inr ⟨z, w, i1, i3, by rw [← i2]; exact dgetK h1⟩
  · rename_i kvs
    rw [Option.map_eq_some_iff] at e
    obtain ⟨q, e1, rfl⟩ := e
    obtain ⟨a, xs, rfl, h1, h2, _, _, h3⟩ := hd.isDT
    refine ⟨a, rfl, ?_⟩
    unfold tkeyOf at e1
    split at e1
    · obtain ⟨b, us, rfl, g1, _, g2⟩ := hk.isTup
      have ek := keysOf_rp g2 e1
      subst ek
      rcases valD_rp q h2 h3 with ⟨i1, i2⟩ | ⟨z, w, i1, i2, i3⟩
      · exact .inl ⟨i1, by rw [← i2]; exact dgetT h1 g1⟩
      · exact .inr ⟨z, w, i1, i3, by rw [← i2]; exact dgetT h1 g1⟩
    · cases e1
  · cases e

/-! ### in -/
def D.flat : D → Bool
  | .non => true | .bl _ => true | .int _ => true | .str _ => true | _ => false
def D.eqF : D → D → Bool
  | .non, .non => true
  | .bl a, .bl b => a == b
  | .bl a, .int b => (if a then 1 else 0) == b
  | .int a, .bl b => a == (if b then 1 else 0)
  | .int a, .int b => a == b
  | .str a, .str b => a == b
  | _, _ => false
theorem flat_rp {r : List Addr} {W : Addr → Prop} {H : Hp} {d : D} {v : V} (h : Rp C r W H d v) (f : d.flat = true) : flatV v = true := by
  cases h <;> first | rfl | (exact absurd (show false = true from f) Bool.false_ne_true)
theorem eqF_rp {r : List Addr} {W : Addr → Prop} {H : Hp} {d e : D} {v w : V} (h : Rp C r W H d v) (k : Rp C r W H e w) (f : d.flat = true) (f' : e.flat = true) : eqV v w = D.eqF d e := by
  cases h <;> cases k <;> first | rfl | (exact absurd (show false = true from f) Bool.false_ne_true) | (exact absurd (show false = true from f') Bool.false_ne_true)
theorem flats_rp {r : List Addr} {W : Addr → Prop} {H : Hp} : ∀ {ds : List D} {vs : List V}, RpL C r W H ds vs → ds.all D.flat = true → vs.all flatV = true
  | _, _, .nil, _ => rfl
  | _, _, .cons h t, f => by
    rw [List.all_cons, Bool.and_eq_true] at f ⊢
    exact ⟨flat_rp h f.1, flats_rp t f.2⟩
theorem inF_rp {r : List Addr} {W : Addr → Prop} {H : Hp} {e : D} {w : V} (k : Rp C r W H e w) (f' : e.flat = true) : ∀ {ds : List D} {vs : List V}, RpL C r W H ds vs → ds.all D.flat = true → inV w vs = ds.any fun z => D.eqF z e
  | _, _, .nil, _ => rfl
  | _, _, .cons h t, f => by
    rw [List.all_cons, Bool.and_eq_true] at f
    rw [List.any_cons, ← inF_rp k f' t f.2, ← eqF_rp h k f.1 f']
    rfl
/-- x in y -/
def fInB (x y : D) : Option Bool := match y with
  | .lst ds => if x.flat && ds.all D.flat then some (ds.any fun z => D.eqF z x) else match D.py x, D.pys ds with
    | some p, some ps => if SeqAt.shaped p && SeqAt.shaped (.list ps) then some (ps.any fun z => PyData.eqv z p) else none
    | _, _ => none
  | .tup ds => if x.flat && ds.all D.flat then some (ds.any fun z => D.eqF z x) else match D.py x, D.pys ds with
    | some p, some ps => if SeqAt.shaped p && SeqAt.shaped (.tuple ps) then some (ps.any fun z => PyData.eqv z p) else none
    | _, _ => none
  | .dK kvs => (dGet y x).map (·.isSome)
  | .dT kvs => (dGet y x).map (·.isSome)
  | .str t => match x with
    | .str s => some (!(Builtin.Str.occurrences t s 0 t.length 1).isEmpty)
    | _ => none
  | _ => none
def fIn (x y : D) : Option D := (fInB x y).map .bl
def fNotIn (x y : D) : Option D := (fInB x y).map fun k => .bl (!k)
def rInDict (neg : Bool) : R2 := fun y x H Q => ∃ a o, x = .ref a ∧ DGet H a y o ∧ Q (.bl (if neg then !o.isSome else o.isSome)) H
theorem op_inDict {X : Cx} (hu : X.A.units + 1 < cLine) : OpR X (compareOp .In) (rInDict false) := by
  intro pins s σ H x y v u Q I rx ry h
  obtain ⟨a, o, rfl, g, q⟩ := h
  cases ry
  exact d_in hu I g rx fun s' I' => ⟨.bl _, H, I', rfl, q⟩
theorem op_notInDict {X : Cx} (hu : X.A.units + 1 < cLine) : OpR X (compareOp .NotIn) (rInDict true) := by
  intro pins s σ H x y v u Q I rx ry h
  obtain ⟨a, o, rfl, g, q⟩ := h
  cases ry
  exact d_notIn hu I g rx fun s' I' => ⟨.bl _, H, I', rfl, q⟩
def rInTD (K : PySem.W.Frag) (neg : Bool) : R2 := fun x y H Q => ∃ d ds, Dp K H x d ∧ Dp K H y (.tuple ds) ∧ SeqAt.shaped d = true ∧ SeqAt.shaped (.tuple ds) = true ∧ Q (.bl (if neg then !ds.any fun z => PyData.eqv z d else ds.any fun z => PyData.eqv z d)) H
theorem op_inTD {X : Cx} (hu : X.A.units + 65 < cLine) : OpR X (compareOp .In) (rInTD X.K false) := by
  intro pins s σ H x y v u Q I rx ry h
  obtain ⟨d, ds, hd, he, sd, se, q⟩ := h
  obtain ⟨as, r1⟩ := Dp.reads I d x v hd rx
  obtain ⟨bs, r2⟩ := Dp.reads I (.tuple ds) y u he ry
  exact SeqAt.in_tuple_reads r2 r1 (SeqAt.canLay_of_shaped se) (SeqAt.canLay_of_shaped sd) (room_in_shaped sd hu) ⟨.bl _, H, I, rfl, q⟩
theorem op_notInTD {X : Cx} (hu : X.A.units + 65 < cLine) : OpR X (compareOp .NotIn) (rInTD X.K true) := by
  intro pins s σ H x y v u Q I rx ry h
  obtain ⟨d, ds, hd, he, sd, se, q⟩ := h
  obtain ⟨as, r1⟩ := Dp.reads I d x v hd rx
  obtain ⟨bs, r2⟩ := Dp.reads I (.tuple ds) y u he ry
  exact SeqAt.notIn_tuple_reads r2 r1 (SeqAt.canLay_of_shaped se) (SeqAt.canLay_of_shaped sd) (room_in_shaped sd hu) ⟨.bl _, H, I, rfl, q⟩
def rInA (K : PySem.W.Frag) : R2 := fun x y H Q => (rIn K false x y H Q ∨ (rInD K x y H Q ∨ rInTD K false x y H Q)) ∨ (rInDict false x y H Q ∨ ∃ i j, x = .str i ∧ y = .str j ∧ Q (.bl (!(Builtin.Str.occurrences j i 0 j.length 1).isEmpty)) H)
def rNotInA (K : PySem.W.Frag) : R2 := fun x y H Q => (rIn K true x y H Q ∨ (rNotInD K x y H Q ∨ rInTD K true x y H Q)) ∨ (rInDict true x y H Q ∨ ∃ i j, x = .str i ∧ y = .str j ∧ Q (.bl (!(!(Builtin.Str.occurrences j i 0 j.length 1).isEmpty))) H)
theorem op_inA {X : Cx} (hu : X.A.units + 65 < cLine) : OpR X (compareOp .In) (rInA X.K) := (op_in_seq.or ((op_inD hu).or (op_inTD hu))).or ((op_inDict (by omega)).or op_in_str)
theorem op_notInA {X : Cx} (hu : X.A.units + 65 < cLine) : OpR X (compareOp .NotIn) (rNotInA X.K) := (op_notIn_seq.or ((op_notInD hu).or (op_notInTD hu))).or ((op_notInDict (by omega)).or op_notin_str)
theorem PRp.flat {r : List Addr} {W : Addr → Prop} {H : Hp} {d : D} {v : V} (h : PRp C r W H d v) (f : d.flat = true) : Rp C r W H d v := by
  cases h with
  | of h => exact h
  | lst => exact absurd (show false = true from f) Bool.false_ne_true
  | dK => exact absurd (show false = true from f) Bool.false_ne_true
  | dT => exact absurd (show false = true from f) Bool.false_ne_true
theorem inB_rp {W : Addr → Prop} {r : List Addr} {H : Hp} {da db : D} {x y : V} {k : Bool} (e : fInB da db = some k) (p1 : PRp C r W H da x) (p2 : PRp C r W H db y) (Q : VK) :
    (Q (.bl k) H → rInA C.K x y H Q) ∧ (Q (.bl (!k)) H → rNotInA C.K x y H Q) := by
  unfold fInB at e
  split at e
  · rename_i ds
    obtain ⟨a, xs, rfl, h1, _, q⟩ := p2.isLst
    split at e
    · rename_i f
      rw [Bool.and_eq_true] at f
      cases e
      have e2 := inF_rp (p1.flat f.1) f.1 q f.2
      exact ⟨fun z => .inl (.inl ⟨a, xs, rfl, .inl (.inl (.inl h1)), flat_rp (p1.flat f.1) f.1, flats_rp q f.2, by simpa [e2] using z⟩), fun z => .inl (.inl ⟨a, xs, rfl, .inl (.inl (.inl h1)), flat_rp (p1.flat f.1) f.1, flats_rp q f.2, by simpa [e2] using z⟩)⟩
    · split at e
      · rename_i p ps e1 e2
        split at e
        · rename_i hs
          rw [Bool.and_eq_true] at hs
          cases e
          have dl : Dp C.K H (.ref a) (.list ps) := .lst (.inl (.inl h1)) (q.dp e2)
          exact ⟨fun z => .inl (.inr (.inl ⟨p, ps, p1.dp e1, dl, hs.1, hs.2, z⟩)), fun z => .inl (.inr (.inl ⟨p, ps, p1.dp e1, dl, hs.1, hs.2, z⟩))⟩
        · cases e
      · cases e
  · rename_i ds
    obtain ⟨a, xs, rfl, h1, _, q⟩ := p2.isTup
    split at e
    · rename_i f
      rw [Bool.and_eq_true] at f
      cases e
      have e2 := inF_rp (p1.flat f.1) f.1 q f.2
      exact ⟨fun z => .inl (.inl ⟨a, xs, rfl, .inr (.inl (.inl h1)), flat_rp (p1.flat f.1) f.1, flats_rp q f.2, by simpa [e2] using z⟩), fun z => .inl (.inl ⟨a, xs, rfl, .inr (.inl (.inl h1)), flat_rp (p1.flat f.1) f.1, flats_rp q f.2, by simpa [e2] using z⟩)⟩
    · split at e
      · rename_i p ps e1 e2
        split at e
        · rename_i hs
          rw [Bool.and_eq_true] at hs
          cases e
          have dl : Dp C.K H (.ref a) (.tuple ps) := .tup (.inl (.inl h1)) (q.dp e2)
          exact ⟨fun z => .inl (.inr (.inr ⟨p, ps, p1.dp e1, dl, hs.1, hs.2, z⟩)), fun z => .inl (.inr (.inr ⟨p, ps, p1.dp e1, dl, hs.1, hs.2, z⟩))⟩
        · cases e
      · cases e
  · rw [Option.map_eq_some_iff] at e
    obtain ⟨o, e1, rfl⟩ := e
    obtain ⟨a, rfl, ⟨rfl, g⟩ | ⟨z, w, rfl, _, g⟩⟩ := dGet_rp p2 p1 e1
    · exact ⟨fun q => .inr (.inl ⟨a, none, rfl, g, q⟩), fun q => .inr (.inl ⟨a, none, rfl, g, q⟩)⟩
    · exact ⟨fun q => .inr (.inl ⟨a, _, rfl, g, q⟩), fun q => .inr (.inl ⟨a, _, rfl, g, q⟩)⟩
  · rw [Option.map_eq_some_iff] at e
    obtain ⟨o, e1, rfl⟩ := e
    obtain ⟨a, rfl, ⟨rfl, g⟩ | ⟨z, w, rfl, _, g⟩⟩ := dGet_rp p2 p1 e1
    · exact ⟨fun q => .inr (.inl ⟨a, none, rfl, g, q⟩), fun q => .inr (.inl ⟨a, none, rfl, g, q⟩)⟩
    · exact ⟨fun q => .inr (.inl ⟨a, _, rfl, g, q⟩), fun q => .inr (.inl ⟨a, _, rfl, g, q⟩)⟩
  · split at e
    · cases e
      exact ⟨fun q => .inr (.inr ⟨_, _, p1.isStr, p2.isStr, q⟩), fun q => .inr (.inr ⟨_, _, p1.isStr, p2.isStr, q⟩)⟩
    · cases e
  · cases e
theorem os_in : OpB C fIn (rInA C.K) := fun W g r H da db d x y Q e b p1 p2 => by
  unfold fIn at e
  rw [Option.map_eq_some_iff] at e
  obtain ⟨k, e1, rfl⟩ := e
  exact ⟨k, rfl, (inB_rp e1 p1 p2 Q).1⟩
theorem os_notIn : OpB C fNotIn (rNotInA C.K) := fun W g r H da db d x y Q e b p1 p2 => by
  unfold fNotIn at e
  rw [Option.map_eq_some_iff] at e
  obtain ⟨k, e1, rfl⟩ := e
  exact ⟨!k, rfl, (inB_rp e1 p1 p2 Q).2⟩

/-! ### arithmetic, + of texts, lists, tuples -/
def fInt (c : Int → Int → Bool) (f : Int → Int → Int) (a b : D) : Option D := match a, b with
  | .int i, .int j => if c i j then some (.int (f i j)) else none
  | _, _ => none
theorem os_int {c : Int → Int → Bool} {P : Int → Int → Prop} {f : Int → Int → Int} (h : ∀ i j, c i j = true → P i j) : OpS C (fInt c f) (rI P fun i j => .int (f i j)) := fun Wx W g r σ H da db d x y Q e b p1 p2 z => by
  unfold fInt at e
  split at e
  · split at e
    · rename_i hc
      cases e
      exact ⟨_, _, p1.isInt, p2.isInt, h _ _ hc, z.here b (.int _)⟩
    · cases e
  · cases e
def fSub (a b : D) : Option D := match a, b with
  | .int i, .int j => some (.int (i - j))
  | _, _ => none
theorem os_sub : OpS C fSub (rI0 fun i j => .int (i - j)) := fun Wx W g r σ H da db d x y Q e b p1 p2 z => by
  unfold fSub at e
  split at e
  · cases e
    exact ⟨_, _, p1.isInt, p2.isInt, z.here b (.int _)⟩
  · cases e
def fAdd (a b : D) : Option D := match a, b with
  | .int i, .int j => some (.int (i + j))
  | .str i, .str j => if i.length + j.length ≤ 1000000 then some (.str (i ++ j)) else none
  | .lst xs, .lst ys => if xs.length + ys.length ≤ 1000000 then some (.lst (xs ++ ys)) else none
  | .tup xs, .tup ys => if xs.length + ys.length ≤ 1000000 then some (.tup (xs ++ ys)) else none
  | _, _ => none
def rAddA (K : PySem.W.Frag) : R2 := fun x y H Q => (rI0 (fun i j => .int (i + j)) x y H Q ∨ ∃ i j, x = .str i ∧ y = .str j ∧ i.length + j.length ≤ sizeLine ∧ Q (.str (i ++ j)) H) ∨ (rCat x y H Q ∨ rCatA K x y H Q)
theorem op_addA {X : Cx} : OpR X (binaryOp .Add) (rAddA X.K) := (op_add.or op_add_str).or (op_cat.or op_catA)
theorem os_add : OpS C fAdd (rAddA C.K) := fun Wx W g r σ H da db d x y Q e b p1 p2 z => by
  unfold fAdd at e
  split at e
  · cases e
    exact .inl (.inl ⟨_, _, p1.isInt, p2.isInt, z.here b (.int _)⟩)
  · split at e
    · rename_i hl
      cases e
      exact .inl (.inr ⟨_, _, p1.isStr, p2.isStr, mil hl, z.here b (.str _)⟩)
    · cases e
  · rename_i xs ys
    split at e
    · rename_i hl
      cases e
      obtain ⟨a, us, rfl, h1, _, q1⟩ := p1.isLst
      obtain ⟨a', us', rfl, h2, _, q2⟩ := p2.isLst
      have hz : us.length + us'.length ≤ sizeLine := by rw [← q1.length, ← q2.length]; exact mil hl
      exact .inr (.inl ⟨a, a', us, us', rfl, rfl, h1, h2, hz, fun p hp => z _ _ r (b.upd hp) (Step.upd hp) (Rp.newL b hp (by rw [List.length_append]; exact hz) (q1.append q2))⟩)
    · cases e
  · rename_i xs ys
    split at e
    · rename_i hl
      cases e
      have p1' := p1
      have p2' := p2
      obtain ⟨a, us, rfl, h1, _, q1⟩ := p1.isTup
      obtain ⟨a', us', rfl, h2, _, q2⟩ := p2.isTup
      have hz : us.length + us'.length ≤ sizeLine := by rw [← q1.length, ← q2.length]; exact mil hl
      refine .inr (.inr ⟨a, a', us, us', rfl, rfl, .inl (.inl h1), .inl (.inl h2), hz, fun e1 => ?_, fun _ e2 => ?_, fun _ _ p hp => z _ _ r (b.upd hp) (Step.upd hp) (Rp.newT b hp (by rw [List.length_append]; exact hz) (q1.append q2))⟩)
      · subst e1
        cases q1
        cases p2' with | of p2' => exact z.here b p2'
      · subst e2
        cases q2
        rw [List.append_nil] at z
        cases p1' with | of p1' => exact z.here b p1'
    · cases e
  · cases e
/-- * of ints, of a list by a small number, of a tuple -/
def fMul (a b : D) : Option D := match a, b with
  | .int i, .int j => if (decide (-(2 ^ 64) < i) && decide (i < 2 ^ 64)) || (decide (-(2 ^ 64) < j) && decide (j < 2 ^ 64)) then some (.int (i * j)) else none
  | .lst xs, .int k => if 0 ≤ k ∧ k ≤ 1000 ∧ xs.length ≤ 1000 then some (.lst (List.replicate k.toNat xs).flatten) else none
  | .tup xs, .int k => if xs ≠ [] ∧ 2 ≤ k ∧ k ≤ 1000 ∧ xs.length ≤ 1000 then some (.tup (List.replicate k.toNat xs).flatten) else none
  | _, _ => none
def rMulA (K : PySem.W.Frag) : R2 := fun x y H Q => rI CMul (fun i j => .int (i * j)) x y H Q ∨ (rRep x y H Q ∨ rRepT K x y H Q)
theorem op_mulA {X : Cx} : OpR X (binaryOp .Mult) (rMulA X.K) := op_mul.or (op_rep.or op_repT)
theorem RpL.rep {r : List Addr} {W : Addr → Prop} {H : Hp} {ds : List D} {vs : List V} (h : RpL C r W H ds vs) : ∀ k : Nat, RpL C r W H (List.replicate k ds).flatten (List.replicate k vs).flatten
  | 0 => .nil
  | k + 1 => by rw [List.replicate_succ, List.replicate_succ, List.flatten_cons, List.flatten_cons]; exact h.append (h.rep k)
theorem rep_len {α : Type} (xs : List α) (k : Nat) : (List.replicate k xs).flatten.length = k * xs.length := by simp [List.length_flatten]
theorem os_mul : OpS C fMul (rMulA C.K) := fun Wx W g r σ H da db d x y Q e b p1 p2 z => by
  unfold fMul at e
  split at e
  · split at e
    · rename_i hc
      cases e
      refine .inl ⟨_, _, p1.isInt, p2.isInt, ?_, z.here b (.int _)⟩
      simp only [Bool.or_eq_true, Bool.and_eq_true, decide_eq_true_eq] at hc
      exact hc
    · cases e
  · rename_i xs k
    split at e
    · rename_i hc
      cases e
      obtain ⟨a, us, rfl, h1, _, q1⟩ := p1.isLst
      have hl : us.length ≤ 1000 := by rw [← q1.length]; exact hc.2.2
      have hm : k.toNat * us.length ≤ 1000 * 1000 := Nat.mul_le_mul (by omega) hl
      exact .inr (.inl ⟨a, k, us, rfl, p2.isInt, h1, by omega, by omega, by rw [Nat.mul_comm]; exact mil (by omega), fun p hp => z _ _ r (b.upd hp) (Step.upd hp) (Rp.newL b hp (by rw [rep_len]; exact mil (by omega)) (q1.rep _))⟩)
    · cases e
  · rename_i xs k
    split at e
    · rename_i hc
      cases e
      obtain ⟨a, us, rfl, h1, _, q1⟩ := p1.isTup
      have hl : us.length ≤ 1000 := by rw [← q1.length]; exact hc.2.2.2
      have hm : k.toNat * us.length ≤ 1000 * 1000 := Nat.mul_le_mul (by omega) hl
      refine .inr (.inr ⟨a, k, us, rfl, p2.isInt, .inl (.inl h1), fun z => hc.1 ?_, hc.2.1, hc.2.2.1, hl, fun p hp => z _ _ r (b.upd hp) (Step.upd hp) (Rp.newT b hp (by rw [rep_len]; exact mil (by omega)) (q1.rep _))⟩)
      subst z
      cases q1
      rfl
    · cases e
  · cases e
/-- // by a small positive number, % by a positive one -/
abbrev fDiv := fInt (fun _ j => decide (0 < j) && decide (j < 1073741824)) (fun i j => i / j)
abbrev fMod := fInt (fun _ j => decide (0 < j)) (fun i j => i % j)
abbrev fPow := fInt (fun i j => decide (0 ≤ j) && decide (j ≤ 1000) && decide (i.natAbs < 2 ^ 64)) (fun i j => i ^ j.toNat)
theorem os_div : OpS C fDiv (rI CDiv fun i j => .int (i / j)) := os_int fun i j h => by
  simp only [Bool.and_eq_true, decide_eq_true_eq] at h
  exact h
theorem os_mod : OpS C fMod (rI (fun _ j => 0 < j) fun i j => .int (i % j)) := os_int fun i j h => by
  simp only [decide_eq_true_eq] at h
  exact h
theorem os_pow : OpS C fPow (rI CPow fun i j => .int (i ^ j.toNat)) := os_int fun i j h => by
  simp only [Bool.and_eq_true, decide_eq_true_eq] at h
  exact ⟨h.1.1, by omega, h.2⟩

/-! ### items -/
def fIx (a b : D) : Option D := match a, b with
  | .lst xs, .int i => atI xs i
  | .tup xs, .int i => atI xs i
  | .str z, .int i => if z.length ≤ 1000000 then (atI z.cps.toList i).map fun c => .str ⟨#[c]⟩ else none
  | .dK _, k => match dGet a k with
    | some (some d) => some d
    | _ => none
  | .dT _, k => match dGet a k with
    | some (some d) => some d
    | _ => none
  | _, _ => none
theorem atI_rp {r : List Addr} {W : Addr → Prop} {H : Hp} {ds : List D} {vs : List V} {i : Int} {d : D} (q : RpL C r W H ds vs) (h : atI ds i = some d) : ∃ v, atI vs i = some v ∧ Rp C r W H d v := by
  unfold atI at h ⊢
  rw [← q.length]
  cases e : ixN ds.length i with
  | none => rw [e] at h; cases h
  | some j =>
    rw [e] at h
    obtain ⟨v, h1, h2⟩ := q.get (show ds[j]? = some d from h)
    exact ⟨v, h1, h2⟩
def rIxD : R2 := fun x y H Q => ∃ a v, x = .ref a ∧ DGet H a y (some v) ∧ Q v H
theorem ix_dict {X : Cx} (hu : X.A.units + 1 < cLine) : IxR X rIxD := by
  intro value slice pins s σ H x y v u Q I rx ry h hs
  obtain ⟨a, w, rfl, g, q⟩ := h
  obtain rfl : v = Value.ref a := rx
  have hT := dict_typeIs I g
  have h₂ : wpAny (model X.prog X.w) X.A (getItem (.ref a) u) (EP X pins σ Q) X.xe s := d_getItem hu I g ry fun w' s' I' r => ⟨w, H, I', r, q⟩
  unfold subscriptTail
  refine wpAny_bind ?_
  rw [getitemInPython_of_ne hT.not_modules]
  refine wpAny_bind (wpAny_specialOf hT PySem.F.slot_dict_getitem.lookup ?_)
  have fin : wpAny (model X.prog X.w) X.A (subscripted slice false (.ref a) u) (fun r s₃ => wpAny (model X.prog X.w) X.A (letTemporaryGo value (.ref a) r >>= fun _ => pure r) (EP X pins σ Q) X.xe s₃) X.xe s := by
    rw [hs]
    exact wpAny_operating (wpAny_mono h₂ (fun r s₃ h₃ => wpAny_bind (wpAny_letTemporaryGo (wpAny_pure h₃))) fun _ _ x => x)
  first
    | exact wpAny_pure (wpAny_bind fin)
    | exact wpAny_bind (wpAny_pure (wpAny_bind fin))
    | exact wpAny_bind fin
def rIxA (K : PySem.W.Frag) : R2 := fun x y H Q => rIx K x y H Q ∨ rIxD x y H Q
theorem ix_any {X : Cx} (hu : X.A.units + 1 < cLine) : IxR X (rIxA X.K) := ix_seq.or (ix_dict hu)
theorem os_ix : OpS C fIx (rIxA C.K) := fun Wx W g r σ H da db d x y Q e b p1 p2 z => by
  unfold fIx at e
  split at e
  · obtain ⟨a, us, rfl, h1, _, q1⟩ := p1.isLst
    obtain ⟨v, e1, e2⟩ := atI_rp q1 e
    exact .inl (.inl ⟨a, us, _, v, rfl, p2.isInt, .inl (.inl h1), e1, z.here b e2⟩)
  · obtain ⟨a, us, rfl, h1, _, q1⟩ := p1.isTup
    obtain ⟨v, e1, e2⟩ := atI_rp q1 e
    exact .inl (.inr (.inl ⟨a, us, _, v, rfl, p2.isInt, .inl (.inl h1), e1, z.here b e2⟩))
  · split at e
    · rename_i hl
      rw [Option.map_eq_some_iff] at e
      obtain ⟨c, e1, rfl⟩ := e
      exact .inl (.inr (.inr ⟨_, _, c, p1.isStr, p2.isInt, mil hl, e1, z.here b (.str _)⟩))
    · cases e
  · split at e
    · rename_i e1
      cases e
      obtain ⟨a, rfl, ⟨h, _⟩ | ⟨y', w, h, h2, g⟩⟩ := dGet_rp p1 p2 e1
      · cases h
      · cases h
        exact .inr ⟨a, w, rfl, g, z.here b h2⟩
    · cases e
  · split at e
    · rename_i e1
      cases e
      obtain ⟨a, rfl, ⟨h, _⟩ | ⟨y', w, h, h2, g⟩⟩ := dGet_rp p1 p2 e1
      · cases h
      · cases h
        exact .inr ⟨a, w, rfl, g, z.here b h2⟩
    · cases e
  · cases e
end
section
variable {X : Cx} {C : Cst} {Wx : WX}
theorem se_ix {a b : Expr} {pos : Pos} {ma mb : ME} (hK : C.K = X.K) (hu : X.A.units + 1 < cLine) (ha : PE X a (RP C Wx ma)) (hb : PE X b (RP C Wx mb)) (hs : PlainIx b) : PE X (.Subscript a b pos) (RE C Wx (mBin fIx ma mb)) :=
  PEm (pe_ix (ix_any hu) ha hb hs) fun _ _ _ h => re_bin (by rw [← hK]; exact os_ix) h

/-! ### slices -/
abbrev MO := Ev → G → R (Option Int)
def RO (C : Cst) (Wx : WX) (m : MO) : TO := fun σ H Q => ∃ W env oas g r, Sm C W env oas g r σ H ∧ Post C Wx W r σ H (fun _ _ b c => c = b) Q (m env g)
def mNo : MO := fun _ g => .ok none g
def mPart (m : ME) : MO := fun env g => (m env g).bind fun d g1 => match d with
  | .int i => .ok (some i) g1
  | _ => .stuck
theorem POm {e : Option Expr} {t t' : TO} (h : PO X e t) (k : ∀ σ H Q, t' σ H Q → t σ H Q) : PO X e t' := ⟨fun pins s σ H Q I q => h.run pins s σ H Q I (k σ H Q q)⟩
theorem so_none : PO X none (RO C Wx mNo) := POm po_none fun σ H Q h => by
  obtain ⟨W, env, oas, g, r, S, P⟩ := h
  exact Post.here (d := none) (g := g) P S.bs rfl
theorem so_some {e : Expr} {m : ME} (h : PE X e (RE C Wx m)) : PO X (some e) (RO C Wx (mPart m)) := POm (po_some h) fun σ H Q h => by
  obtain ⟨W, env, oas, g, r, S, P⟩ := h
  refine ⟨W, env, oas, g, r, S, Post.mono (Post.split P) fun v H1 ⟨d, g1, r1, b1, s1, p1, q1⟩ => ?_⟩
  cases d with
  | int i => exact ⟨i, p1.isInt, Post.here (d := some i) (g := g1) q1 b1 rfl⟩
  | _ => exact q1.elim
def cutD (xs : List D) (lo hi : Option Int) : List D := (xs.drop (HT.sIx xs.length 0 lo)).take (HT.sIx xs.length xs.length hi - HT.sIx xs.length 0 lo)
def fSl (d : D) (lo hi : Option Int) : Option D := match d with
  | .lst xs => some (.lst (cutD xs lo hi))
  | .tup xs => some (.tup (cutD xs lo hi))
  | _ => none
def mSl (m : ME) (ml mh : MO) : ME := fun env g => (m env g).bind fun d g1 => (ml env g1).bind fun lo g2 => (mh env g2).bind fun hi g3 => liftO (fSl d lo hi) g3
theorem cutD_rp {r : List Addr} {W : Addr → Prop} {H : Hp} {ds : List D} {vs : List V} (q : RpL C r W H ds vs) (lo hi : Option Int) : RpL C r W H (cutD ds lo hi) (cutV vs lo hi) := by
  unfold cutD cutV
  rw [q.length]
  exact (q.drop _).take _
theorem cutD_whole {xs : List D} {l u : Option Int} (w : HT.sIx xs.length 0 l = 0 ∧ HT.sIx xs.length xs.length u = xs.length) : cutD xs l u = xs := by
  unfold cutD
  rw [w.1, w.2]
  exact (List.take_of_length_le (by rw [List.drop_zero]; exact Nat.le_refl _)).trans List.drop_zero
def rSlX (K : PySem.W.Frag) : V → Option Int → Option Int → Hp → VK → Prop := fun x lo hi H Q => rSlL K x lo hi H Q ∨ rSlA K x lo hi H Q
theorem sl_any : L2.SlR X (rSlX X.K) := sl_list.or sl_tupA
theorem se_slice {e : Expr} {lo hi : Option Expr} {p2 pos : Pos} {m : ME} {ml mh : MO} (hK : C.K = X.K) (he : PE X e (RP C Wx m)) (hl : PO X lo (RO C Wx ml)) (hh : PO X hi (RO C Wx mh)) : PE X (.Subscript e (.Slice lo hi none p2) pos) (RE C Wx (mSl m ml mh)) :=
  PEm (pe_slice sl_any he hl hh) fun σ H Q h => by
    obtain ⟨W, env, oas, g, r, S, P⟩ := h
    refine ⟨W, env, oas, g, r, S, Post.mono (Post.split P) fun v H1 ⟨d, g1, r1, b1, s1, p1, q1⟩ => ⟨W, env, oas, g1, r1, S.step s1 b1, Post.mono (Post.split q1) fun l H2 ⟨l', g2, r2, b2, s2, e2, q2⟩ => ⟨W, env, oas, g2, r2, (S.step s1 b1).step s2 b2, Post.mono (Post.split q2) fun u H3 ⟨u', g3, r3, b3, s3, e3, q3⟩ => ?_⟩⟩⟩
    subst e2 e3
    obtain ⟨z, hz, q4⟩ := liftO_some q3
    have p3 := (p1.step s2).step s3
    rw [← hK]
    unfold fSl at hz
    split at hz
    · cases hz
      obtain ⟨a, us, rfl, h1, hz1, k1⟩ := p3.isLst
      exact .inl ⟨a, us, rfl, .inl (.inl h1), fun p hp => q4 _ _ r3 (b3.upd hp) (Step.upd hp) (Rp.newL b3 hp (Nat.le_trans (cutV_length _ _ _) hz1) (cutD_rp k1 _ _))⟩
    · cases hz
      have p4 := p3
      obtain ⟨a, us, rfl, h1, hz1, k1⟩ := p3.isTup
      refine .inr ⟨a, us, rfl, .inl (.inl h1), fun w => ?_, fun _ p hp => q4 _ _ r3 (b3.upd hp) (Step.upd hp) (Rp.newT b3 hp (Nat.le_trans (cutV_length _ _ _) hz1) (cutD_rp k1 _ _))⟩
      cases p4 with
      | of p4 =>
        refine q4.here b3 ?_
        rw [cutD_whole (by rw [k1.length]; exact w)]
        exact p4
    · cases hz
end
end GT

/-! GtDz: defs that are called where no text is being made of a thing (so repr may be asked). -/
namespace GT
open PySem PySem.Spec PyProof.Rows L2
structure RoomG (k : Nat) (A : Around) : Prop extends Room k A where
  gd : A.guards = some []
theorem RoomG.mono {j k : Nat} {A : Around} (r : RoomG k A) (h : j ≤ k) : RoomG j A := ⟨r.toRoom.mono h, r.gd⟩
theorem RoomG.deeper {k : Nat} {A : Around} (r : RoomG (k + 1) A) (env : Env) : RoomG k (A.deeper env) := ⟨r.toRoom.deeper env, r.gd⟩
/-- sys.modules stands in the ground, so that nothing tracked is there -/
def SysB (base : Heap) : Prop := ∃ o es n, base.get? sysModules = some o ∧ o.data = .dict es n
/-- a def keeps its promise -/
structure FnG (P : Program) (w : World) (K : PySem.W.Frag) (mg : Str → Option Value) (base : Heap) (CX : CXT) (k : Nat) (f : Addr) (fd : FuncData) (ps : List Str) (sp : Sp) : Prop where
  len : ∀ vs H Q E, sp vs H Q E → vs.length = ps.length
  run : ∀ (A : Around) (out : List Env) (s : Shared) (H : Hp) (args : Args) (us : List Value) (vs : List V) (Q : VK) (E : XK), RoomG k A → Env0 P w K mg base A out s H → BindsTo s fd args (ps.zip us) → Vals vs us → sp vs H Q E →
    codeAny (model P w) A (.call (.ref f) args) (CR CX out P w H s Q E) s
theorem fnG_of {CX : CXT} {P : Program} {w : World} {K : PySem.W.Frag} {mg : Str → Option Value} {base : Heap} {k : Nat} {f : Addr} {name qual : Str} {params : Arguments} {body : List Stmt} {scope : Scope} {dV kV doc pm cdv ct oc : Value} {an od : Option Addr}
    {osl : Array (Option Value)} {N ps : List Str} {sp : Sp} (lk : K.lookup f = some ⟨oc, od, .func (PySem.W.fnOf name qual params body scope dV kV doc pm an cdv ct), osl⟩) (hcd : PySem.W.codeIn K cdv qual = true) (S : FnScope N ps scope)
    (len : ∀ vs H Q E, sp vs H Q E → vs.length = ps.length)
    (hbody : ∀ (A : Around) (out : List Env) (s : Shared) (H : Hp) (vs : List V) (Q : VK) (E : XK), RoomG k (A.deeper (envOfC qual scope s.heap.objs.size f cdv)) → sp vs H Q E →
      ∃ t, PSs (cxOf CX P w K mg base N qual scope f cdv A out s H E) body t ∧ t { nx := fun _ H' => Q .non H', rt := Q } (start N vs) H) :
    FnG P w K mg base CX (k + 1) f (PySem.W.fnOf name qual params body scope dV kV doc pm an cdv ct) ps sp := by
  refine ⟨len, fun A out s H args us vs Q E hr e0 hb r hsp => ?_⟩
  have hl := len _ _ _ _ hsp
  have bk : ∀ b o, base.get? b = some o → s.heap.get? b = some o := fun b o e => (e0.bs b o e).1
  have KX : K.In s.heap := e0.mod.kin.keeps bk
  have hk : ∀ y ∈ ps.zip us, scope.names.lookup y.1 = some .local ∨ (scope.names.lookup y.1 = some .cell ∧ ((cellsFrom (s.heap.objs.size + 1) scope.names []).lookup y.1).isSome = true) := fun y hy => by
    rcases S.par y.1 (List.of_mem_zip hy).1 with q | q
    · exact .inl q
    · exact .inr ⟨q, PySem.W.cellsFrom_some _ _ _ (.inl q)⟩
  refine codeAny_call_function hr.depth (KX _ _ lk) rfl S.co S.gen rfl (PySem.W.codeRec_of KX hcd) (hb _ _ _ _ ?_)
  refine wpAny_newFunctionEnv_cells S.kind hk fun env he s1 x => ?_
  subst he
  refine ⟨(e0.mod.nolimit.keeps bk).keeps x.toInCall.keep, codeAny_func ?_⟩
  obtain ⟨t, ht, hq⟩ := hbody A out s H vs Q E (hr.deeper _) hsp
  have I : Inv (cxOf CX P w K mg base N qual scope f cdv A out s H E) [] (start N vs) H s1 := inv_start S hr.hd e0 hl r x
  refine wpAny_mono (ht.run [] s1 (start N vs) H _ I hq) (fun fl s' hs => ?_) fun e s' hs => hs
  cases fl with
  | ret u =>
    obtain ⟨v, σ', H', J, rv, q⟩ := hs
    exact ⟨v, H', J.os, J.bare, J.base, J.hok, rv, q⟩
  | next =>
    obtain ⟨σ', H', J, q⟩ := hs
    exact ⟨V.non, H', J.os, J.bare, J.base, J.hok, rfl, q⟩
  | brk =>
    obtain ⟨_, _, _, q⟩ := hs
    exact False.elim q
  | cont =>
    obtain ⟨_, _, _, q⟩ := hs
    exact False.elim q
section
variable {X : Cx} {CX : CXT} {k : Nat} {f : Addr} {fd : FuncData} {ps : List Str} {sp : Sp} {E : L2.St → XK} {x : Str} {p pos : Pos} {e : Expr} {es : List Expr} {t : TA}
theorem run_fnG {pins : List (Addr × Obj)} {σ : L2.St} {H : Hp} {s : Shared} {Q : VK} {us : List Value} {vs : List V} (F : FnG X.prog X.w X.K X.mg X.base CX k f fd ps sp) (hr : RoomG k X.A) (hb : Binds X.K fd ps []) (hx : PassesAt CX X σ (E σ))
    (I : Inv X pins σ H s) (r : Vals vs us) (h : sp vs H Q (E σ)) : wpAny (model X.prog X.w) X.A (call (.ref f) us) (EP X pins σ Q) X.xe s := by
  have hl : us.length = ps.length := by rw [← r.length]; exact F.len _ _ _ _ h
  have bn := hb s us I.kIn (by rw [List.append_nil]; exact hl)
  rw [List.append_nil] at bn
  refine wpAny_call (codeAny_mono (F.run X.A X.stack s H ⟨us, []⟩ us vs Q (E σ) hr I.env0 bn r h) fun r s' hq => ?_)
  cases r with
  | error e => exact hx pins H s e s' I hq
  | ok fl =>
    cases fl with
    | ret u => exact I.after hq
    | next => exact False.elim hq
    | brk => exact False.elim hq
    | cont => exact False.elim hq
theorem pe_callG (F : FnG X.prog X.w X.K X.mg X.base CX k f fd ps sp) (hr : RoomG k X.A) (hg : Gl X x) (hm : X.mg x = some (.ref f)) (hk : PySem.W.keepIn X.K (.ref f) = true) (hb : Binds X.K fd ps []) (hx : ∀ σ, PassesAt CX X σ (E σ))
    (ha : PA X (e :: es) t) (hdb : (x == ("__debug__" : Str)) = false := by decide) (he : starEach (e :: es) X.env = (false, eval e X.env) :: starEach es X.env := by rfl) (hpl : (backTo pos (starEach es X.env)).any (·.1) = false := by rfl) :
    PE X (.Call (.Name x p) (e :: es) [] pos) (tCallS sp E t) := by
  refine ⟨fun pins s σ H Q I h => ?_⟩
  refine wpAny_Call_Name_kw (ld_glob I hg hm ?_ hdb)
  exact PySem.W.callWith_K (h₀ := X.base) I.ok.mod.kin hk (thn (ha.run pos pins s σ H _ I h) fun us s1 ⟨vs, H1, I1, r, q⟩ => ⟨I1.kIn, run_fnG F hr hb (hx σ) I1 r q⟩) he hpl
end
end GT

/-! GtD: calls of built-ins, calls of defs. -/
namespace GT
open PySem PySem.Spec PyProof.Rows L2

/-! ### arguments that are looked at -/
inductive PRpL (C : Cst) (r : List Addr) (W : Addr → Prop) (H : Hp) : List D → List V → Prop
  | nil : PRpL C r W H [] []
  | cons {d : D} {v : V} {ds : List D} {vs : List V} (h : PRp C r W H d v) (t : PRpL C r W H ds vs) : PRpL C r W H (d :: ds) (v :: vs)
abbrev RlPA (C : Cst) (W : Addr → Prop) : List Addr → Hp → List D → List V → Prop := fun r H d v => PRpL C r W H d v
def RPA (C : Cst) (Wx : WX) (m : MA) : TA := fun σ H Q => ∃ W env oas g r, Sm C W env oas g r σ H ∧ Post C Wx W r σ H (RlPA C W) Q (m env g)
section
variable {X : Cx} {C : Cst} {Wx : WX}
theorem pa_nilP : PA X [] (RPA C Wx mNil) := PAm pa_nil fun σ H Q h => by
  obtain ⟨W, env, oas, g, r, S, P⟩ := h
  exact Post.here (d := []) (g := g) P S.bs .nil
theorem pa_consP {e : Expr} {es : List Expr} {m : ME} {ms : MA} (ha : PE X e (RP C Wx m)) (hr : PA X es (RPA C Wx ms)) (hs : starEach (e :: es) X.env = (false, eval e X.env) :: starEach es X.env := by rfl) : PA X (e :: es) (RPA C Wx (mCons m ms)) :=
  PAm (pa_cons ha hr hs) fun σ H Q h => by
    obtain ⟨W, env, oas, g, r, S, P⟩ := h
    refine ⟨W, env, oas, g, r, S, Post.mono (Post.split P) fun v H1 ⟨d, g1, r1, b1, s1, p1, q1⟩ => ⟨W, env, oas, g1, r1, S.step s1 b1, Post.mono (Post.split q1) fun w H2 ⟨e, g2, r2, b2, s2, p2, q2⟩ => ?_⟩⟩
    exact Post.here (d := d :: e) (g := g2) q2 b2 (.cons (p1.step s2) p2)
end
theorem PRpL.one {C : Cst} {r : List Addr} {W : Addr → Prop} {H : Hp} {d : D} {xs : List V} (h : PRpL C r W H [d] xs) : ∃ v, xs = [v] ∧ PRp C r W H d v := by
  cases h with | cons h t => cases t; exact ⟨_, rfl, h⟩
theorem PRpL.two {C : Cst} {r : List Addr} {W : Addr → Prop} {H : Hp} {d e : D} {xs : List V} (h : PRpL C r W H [d, e] xs) : ∃ v w, xs = [v, w] ∧ PRp C r W H d v ∧ PRp C r W H e w := by
  cases h with | cons h t => cases t with | cons h' t' => cases t'; exact ⟨_, _, rfl, h, h'⟩

/-! ### built-ins -/
def mBlt (f : List D → Option D) (ms : MA) : ME := fun env g => (ms env g).bind fun ds g1 => liftO (f ds) g1
def CallS (C : Cst) (f : List D → Option D) (r2 : List V → Hp → VK → Prop) : Prop := ∀ (Wx : WX) (W : Addr → Prop) (g : G) (r : List Addr) (σ : L2.St) (H : Hp) (ds : List D) (d : D) (xs : List V) (Q : VK), f ds = some d → Bs C W g r H → PRpL C r W H ds xs → Post C Wx W r σ H (RlE C W) Q (.ok d g) → r2 xs H Q
section
variable {X : Cx} {C : Cst} {Wx : WX}
theorem re_blt {f : List D → Option D} {r2 : List V → Hp → VK → Prop} {ms : MA} (hs : CallS C f r2) {σ : L2.St} {H : Hp} {Q : VK} (h : RE C Wx (mBlt f ms) σ H Q) : tCB r2 (RPA C Wx ms) σ H Q := by
  obtain ⟨W, env, oas, g, r, S, P⟩ := h
  refine ⟨W, env, oas, g, r, S, Post.mono (Post.split P) fun v H1 ⟨d, g1, r1, b1, s1, p1, q1⟩ => ?_⟩
  obtain ⟨z, hz, q3⟩ := liftO_some q1
  exact hs Wx W g1 r1 σ H1 d z v Q hz b1 p1 q3
theorem se_blt {x : Str} {id : String} {e : Expr} {es : List Expr} {p pos : Pos} {f : List D → Option D} {r2 : List V → Hp → VK → Prop} {ms : MA} (hc : CallR X (.builtin id) r2) (hs : CallS C f r2) (hg : Gl X x) (hm : X.mg x = none) (hv : bootBuiltins x = some (.builtin id)) (ha : PA X (e :: es) (RPA C Wx ms)) (hn : x ≠ "__name__" := by decide) (hdb : (x == ("__debug__" : Str)) = false := by decide)
    (he : starEach (e :: es) X.env = (false, eval e X.env) :: starEach es X.env := by rfl) (hpl : (backTo pos (starEach es X.env)).any (·.1) = false := by rfl) : PE X (.Call (.Name x p) (e :: es) [] pos) (RE C Wx (mBlt f ms)) :=
  PEm (pe_callB hc hg hm hv ha hn hdb he hpl) fun _ _ _ h => re_blt hs h
theorem se_ty {x : Str} {T : String} {e : Expr} {es : List Expr} {p pos : Pos} {f : List D → Option D} {r2 : List V → Hp → VK → Prop} {ms : MA} (hc : CallR X (.type T) r2) (hs : CallS C f r2) (hg : Gl X x) (hm : X.mg x = none) (hv : bootBuiltins x = some (.type T)) (ha : PA X (e :: es) (RPA C Wx ms)) (hn : x ≠ "__name__" := by decide) (hdb : (x == ("__debug__" : Str)) = false := by decide)
    (he : starEach (e :: es) X.env = (false, eval e X.env) :: starEach es X.env := by rfl) (hpl : (backTo pos (starEach es X.env)).any (·.1) = false := by rfl) : PE X (.Call (.Name x p) (e :: es) [] pos) (RE C Wx (mBlt f ms)) :=
  PEm (pe_callTy hc hg hm hv ha hn hdb he hpl) fun _ _ _ h => re_blt hs h
end

/-- len -/
def fLen : List D → Option D
  | [.lst ds] => some (.int ds.length)
  | [.tup ds] => some (.int ds.length)
  | [.scr ns] => some (.int ns.length)
  | [.str z] => if z.length ≤ 1000000 then some (.int z.length) else none
  | _ => none
def rLenA (K : PySem.W.Frag) : List V → Hp → VK → Prop := fun xs H Q => (∃ p ys, xs = [.ref p] ∧ (SqL K H p ys ∨ SqT K H p ys) ∧ Q (.int ys.length) H) ∨ ((∃ z, xs = [.str z] ∧ z.length ≤ sizeLine ∧ Q (.int z.length) H) ∨ ∃ a kvs, xs = [V.ref a] ∧ H a = some (.dK kvs) ∧ Q (.int kvs.length) H)
theorem call_lenA {X : Cx} : CallR X (.builtin "len") (rLenA X.K) := call_len_seq.or (call_len_str.or call_lenD)
section
variable {C : Cst}
theorem cs_len : CallS C fLen (rLenA C.K) := fun Wx W g r σ H ds d xs Q e b p z => by
  unfold fLen at e
  split at e
  · cases e
    obtain ⟨v, rfl, p'⟩ := p.one
    obtain ⟨a, us, rfl, h1, _, q1⟩ := p'.isLst
    exact .inl ⟨a, us, rfl, .inl (.inl (.inl h1)), by rw [← q1.length]; exact z.here b (.int _)⟩
  · cases e
    obtain ⟨v, rfl, p'⟩ := p.one
    obtain ⟨a, us, rfl, h1, _, q1⟩ := p'.isTup
    exact .inl ⟨a, us, rfl, .inr (.inl (.inl h1)), by rw [← q1.length]; exact z.here b (.int _)⟩
  · cases e
    obtain ⟨v, rfl, p'⟩ := p.one
    obtain ⟨a, rfl, h1⟩ := p'.isScr
    exact .inl ⟨a, _, rfl, .inl h1, by rw [List.length_map]; exact z.here b (.int _)⟩
  · split at e
    · rename_i hl
      cases e
      obtain ⟨v, rfl, p'⟩ := p.one
      have := p'.isStr
      subst this
      exact .inr (.inl ⟨_, rfl, mil hl, z.here b (.int _)⟩)
    · cases e
  · cases e

/-- list(x), tuple(x) -/
def kD : Key → D
  | .inl i => .int i
  | .inr x => .str x
def fList : List D → Option D
  | [.lst ds] => some (.lst ds)
  | [.tup ds] => some (.lst ds)
  | [.dT kvs] => if kvs.all (fun kv => decide (kv.1.length ≤ 1000000)) then some (.lst (kvs.map fun kv => .tup (kv.1.map kD))) else none
  | _ => none
def rListA (K : PySem.W.Frag) : List V → Hp → VK → Prop := fun xs H Q => (∃ p ys, xs = [.ref p] ∧ (SqL K H p ys ∨ SqT K H p ys) ∧ ∀ l, H l = none → Q (.ref l) (upd H l (.lst ys))) ∨ (rListD xs H Q ∨
  ∃ d kvs, xs = [V.ref d] ∧ Rd H d (.dT kvs) ∧ ∀ p bs, H p = none → IsKeys H kvs bs → Q (.ref p) (upd H p (.lst (bs.map V.ref))))
theorem call_listA {X : Cx} (hc : X.calm = true) : CallR X (.type "list") (rListA X.K) := call_list_of.or ((call_list_dK hc).or (call_list_dT hc))
theorem kD_rp {r : List Addr} {W : Addr → Prop} {H : Hp} (k : Key) : Rp C r W H (kD k) (kV k) := by
  cases k with
  | inl i => exact .int i
  | inr x => exact .str x
theorem kDs_rp {r : List Addr} {W : Addr → Prop} {H : Hp} : ∀ (ks : List Key), RpL C r W H (ks.map kD) (ks.map kV)
  | [] => .nil
  | k :: ks => .cons (kD_rp k) (kDs_rp ks)
theorem RpL.of_get {r : List Addr} {W : Addr → Prop} {H : Hp} : ∀ {ds : List D} {vs : List V}, ds.length = vs.length → (∀ (i : Nat) (d : D) (v : V), ds[i]? = some d → vs[i]? = some v → Rp C r W H d v) → RpL C r W H ds vs
  | [], [], _, _ => .nil
  | [], _ :: _, e, _ => by simp at e
  | _ :: _, [], e, _ => by simp at e
  | d :: ds, v :: vs, e, h => .cons (h 0 d v rfl rfl) (RpL.of_get (by simpa using e) fun i a b h1 h2 => h (i + 1) a b (by simpa using h1) (by simpa using h2))
theorem keysT_rp {W : Addr → Prop} {g : G} {r : List Addr} {H : Hp} (b : Bs C W g r H) : ∀ {kvs : List (List Key × V)} {bs : List Addr}, kvs.length ≤ sizeLine → (∀ kv ∈ kvs, kv.1.length ≤ sizeLine) → IsKeys H kvs bs → RpL C r W H (kvs.map fun kv => .tup (kv.1.map kD)) (bs.map V.ref)
  | _, _, _, _, .nil => .nil
  | _, _, hz, hk, .cons (b := a) h t => by
    refine .cons ?_ (keysT_rp b (by simp only [List.length_cons] at hz; omega) (fun kv hkv => hk kv (List.mem_cons_of_mem _ hkv)) t)
    refine .tup h (by rw [List.length_map]; exact hk _ (List.mem_cons_self ..)) (fun z => b.objs.nt z _ h) (fun z => b.wnt _ z _ (.tup _) h) (kDs_rp _)
theorem map_fst {κ α β γ : Type} (f : κ → γ) : ∀ {ks : List (κ × α)} {xs : List (κ × β)}, ks.map (·.1) = xs.map (·.1) → (ks.map fun kv => f kv.1) = xs.map fun kv => f kv.1 := fun {ks xs} e => by
  have := congrArg (List.map f) e
  rw [List.map_map, List.map_map] at this
  exact this
theorem cs_list : CallS C fList (rListA C.K) := fun Wx W g r σ H ds d xs Q e b p z => by
  unfold fList at e
  split at e
  · cases e
    obtain ⟨v, rfl, p'⟩ := p.one
    obtain ⟨a, us, rfl, h1, hz, q1⟩ := p'.isLst
    exact .inl ⟨a, us, rfl, .inl (.inl (.inl h1)), fun l hl => z _ _ r (b.upd hl) (Step.upd hl) (Rp.newL b hl hz q1)⟩
  · cases e
    obtain ⟨v, rfl, p'⟩ := p.one
    obtain ⟨a, us, rfl, h1, hz, q1⟩ := p'.isTup
    exact .inl ⟨a, us, rfl, .inr (.inl (.inl h1)), fun l hl => z _ _ r (b.upd hl) (Step.upd hl) (Rp.newL b hl hz q1)⟩
  · split at e
    · rename_i hk
      cases e
      obtain ⟨v, rfl, p'⟩ := p.one
      obtain ⟨a, us, rfl, h1, h2, hz, _, q1⟩ := p'.isDT
      have hk2 : ∀ kv ∈ us, kv.1.length ≤ sizeLine := fun kv hkv => by
        have hm : kv.1 ∈ us.map (·.1) := List.mem_map.mpr ⟨kv, hkv, rfl⟩
        rw [← h2] at hm
        obtain ⟨kv', h3, h4⟩ := List.mem_map.mp hm
        have := List.all_eq_true.mp hk kv' h3
        rw [← h4]
        exact mil (of_decide_eq_true this)
      refine .inr (.inr ⟨a, us, rfl, h1, fun l bs hl hb => z _ _ r (b.upd hl) (Step.upd hl) ?_⟩)
      refine Rp.newL b hl (by rw [List.length_map, ← Paired.length hb]; exact hz) ?_
      rw [map_fst (fun k => D.tup (k.map kD)) h2]
      exact keysT_rp b hz hk2 hb
    · cases e
  · cases e
def fTuple : List D → Option D
  | [.lst ds] => some (.tup ds)
  | [.tup ds] => some (.tup ds)
  | _ => none
def rTupleA (K : PySem.W.Frag) : List V → Hp → VK → Prop := fun xs H Q => ∃ p ys, xs = [.ref p] ∧ ((SqL K H p ys ∧ ∀ l, H l = none → Q (.ref l) (upd H l (.tup ys))) ∨ (SqT K H p ys ∧ Q (.ref p) H))
theorem call_tupleA {X : Cx} : CallR X (.type "tuple") (rTupleA X.K) := call_tuple_of
theorem cs_tuple : CallS C fTuple (rTupleA C.K) := fun Wx W g r σ H ds d xs Q e b p z => by
  unfold fTuple at e
  split at e
  · cases e
    obtain ⟨v, rfl, p'⟩ := p.one
    obtain ⟨a, us, rfl, h1, hz, q1⟩ := p'.isLst
    exact ⟨a, us, rfl, .inl ⟨.inl (.inl h1), fun l hl => z _ _ r (b.upd hl) (Step.upd hl) (Rp.newT b hl hz q1)⟩⟩
  · cases e
    obtain ⟨v, rfl, p'⟩ := p.one
    have p2 := p'
    obtain ⟨a, us, rfl, h1, hz, q1⟩ := p'.isTup
    cases p2 with
    | of p2 => exact ⟨a, us, rfl, .inr ⟨.inl (.inl h1), z.here b p2⟩⟩
  · cases e

/-- max, min of two ints; of a list of ints -/
def maxL : List Int → Int
  | [] => 0
  | [x] => x
  | x :: y :: l => max x (maxL (y :: l))
def minL : List Int → Int
  | [] => 0
  | [x] => x
  | x :: y :: l => min x (minL (y :: l))
theorem maxL_eq : ∀ {ns : List Int} {m : Int}, m ∈ ns → (∀ y, y ∈ ns → y ≤ m) → m = maxL ns
  | [], _, h, _ => by cases h
  | [x], m, h, _ => by simp at h; exact h
  | x :: y :: l, m, h, k => by
    rw [maxL]
    rcases List.mem_cons.mp h with e | e
    · have : maxL (y :: l) ≤ m := by
        have hm : ∀ l' : List Int, l' ≠ [] → maxL l' ∈ l' := fun l' hne => by
          induction l' with
          | nil => exact absurd rfl hne
          | cons a t ih =>
            cases t with
            | nil => simp [maxL]
            | cons b t' =>
              rw [maxL]
              have := ih (by simp)
              by_cases hab : a ≤ maxL (b :: t')
              · rw [Int.max_eq_right hab]; exact List.mem_cons_of_mem _ this
              · rw [Int.max_eq_left (by omega)]; exact List.mem_cons_self ..
        exact k _ (List.mem_cons_of_mem _ (hm (y :: l) (by simp)))
      omega
    · have e1 := maxL_eq (ns := y :: l) e fun z hz => k z (List.mem_cons_of_mem _ hz)
      have := k x (List.mem_cons_self ..)
      omega
theorem minL_eq : ∀ {ns : List Int} {m : Int}, m ∈ ns → (∀ y, y ∈ ns → m ≤ y) → m = minL ns
  | [], _, h, _ => by cases h
  | [x], m, h, _ => by simp at h; exact h
  | x :: y :: l, m, h, k => by
    rw [minL]
    rcases List.mem_cons.mp h with e | e
    · have : m ≤ minL (y :: l) := by
        have hm : ∀ l' : List Int, l' ≠ [] → minL l' ∈ l' := fun l' hne => by
          induction l' with
          | nil => exact absurd rfl hne
          | cons a t ih =>
            cases t with
            | nil => simp [minL]
            | cons b t' =>
              rw [minL]
              have := ih (by simp)
              by_cases hab : minL (b :: t') ≤ a
              · rw [Int.min_eq_right hab]; exact List.mem_cons_of_mem _ this
              · rw [Int.min_eq_left (by omega)]; exact List.mem_cons_self ..
        exact k _ (List.mem_cons_of_mem _ (hm (y :: l) (by simp)))
      omega
    · have e1 := minL_eq (ns := y :: l) e fun z hz => k z (List.mem_cons_of_mem _ hz)
      have := k x (List.mem_cons_self ..)
      omega
def fMax : List D → Option D
  | [.int i, .int j] => some (.int (max i j))
  | [.lst ds] => match D.ints ds with
    | some (n :: ns) => some (.int (maxL (n :: ns)))
    | _ => none
  | _ => none
def fMin : List D → Option D
  | [.int i, .int j] => some (.int (min i j))
  | [.lst ds] => match D.ints ds with
    | some (n :: ns) => some (.int (minL (n :: ns)))
    | _ => none
  | _ => none
def rMaxA (K : PySem.W.Frag) : List V → Hp → VK → Prop := fun xs H Q => (∃ i j, xs = [.int i, .int j] ∧ Q (.int (if j > i then j else i)) H) ∨ rMax K xs H Q
def rMinA (K : PySem.W.Frag) : List V → Hp → VK → Prop := fun xs H Q => (∃ i j, xs = [.int i, .int j] ∧ Q (.int (if j < i then j else i)) H) ∨ rMin K xs H Q
theorem call_maxA {X : Cx} (hc : X.calm = true) : CallR X (.builtin "max") (rMaxA X.K) := (call_max2 hc).or (cr_max hc)
theorem call_minA {X : Cx} (hc : X.calm = true) : CallR X (.builtin "min") (rMinA X.K) := (call_min2 hc).or (cr_min hc)
theorem cs_max : CallS C fMax (rMaxA C.K) := fun Wx W g r σ H ds d xs Q e b p z => by
  unfold fMax at e
  split at e
  · cases e
    obtain ⟨v, w, rfl, p1, p2⟩ := p.two
    have e1 := p1.isInt
    have e2 := p2.isInt
    subst e1 e2
    refine .inl ⟨_, _, rfl, ?_⟩
    have : ∀ i j : Int, (if j > i then j else i) = max i j := fun i j => by split <;> omega
    rw [this]
    exact z.here b (.int _)
  · split at e
    · rename_i n ns e1
      cases e
      obtain ⟨v, rfl, p'⟩ := p.one
      obtain ⟨a, us, rfl, h1, hz, q1⟩ := p'.isLst
      have eu := ints_rp q1 e1
      subst eu
      refine .inr ⟨a, n :: ns, rfl, .inl (.inl h1), by simp, fun m h2 h3 => ?_⟩
      rw [maxL_eq h2 h3]
      exact z.here b (.int _)
    · cases e
  · cases e
theorem cs_min : CallS C fMin (rMinA C.K) := fun Wx W g r σ H ds d xs Q e b p z => by
  unfold fMin at e
  split at e
  · cases e
    obtain ⟨v, w, rfl, p1, p2⟩ := p.two
    have e1 := p1.isInt
    have e2 := p2.isInt
    subst e1 e2
    refine .inl ⟨_, _, rfl, ?_⟩
    have : ∀ i j : Int, (if j < i then j else i) = min i j := fun i j => by split <;> omega
    rw [this]
    exact z.here b (.int _)
  · split at e
    · rename_i n ns e1
      cases e
      obtain ⟨v, rfl, p'⟩ := p.one
      obtain ⟨a, us, rfl, h1, hz, q1⟩ := p'.isLst
      have eu := ints_rp q1 e1
      subst eu
      refine .inr ⟨a, n :: ns, rfl, .inl (.inl h1), by simp, fun m h2 h3 => ?_⟩
      rw [minL_eq h2 h3]
      exact z.here b (.int _)
    · cases e
  · cases e
/-- sum, any, all -/
def fSum : List D → Option D
  | [.lst ds] => (D.ints ds).map fun ns => .int ns.sum
  | _ => none
theorem cs_sum : CallS C fSum (rSum C.K) := fun Wx W g r σ H ds d xs Q e b p z => by
  unfold fSum at e
  split at e
  · rw [Option.map_eq_some_iff] at e
    obtain ⟨ns, e1, rfl⟩ := e
    obtain ⟨v, rfl, p'⟩ := p.one
    obtain ⟨a, us, rfl, h1, hz, q1⟩ := p'.isLst
    have eu := ints_rp q1 e1
    subst eu
    exact ⟨a, ns, rfl, .inl (.inl h1), z.here b (.int _)⟩
  · cases e
def D.bls : List D → Option (List Bool)
  | [] => some []
  | .bl i :: ds => (D.bls ds).map (i :: ·)
  | _ :: _ => none
theorem bls_rp {r : List Addr} {W : Addr → Prop} {H : Hp} : ∀ {ds : List D} {vs : List V} {ns : List Bool}, RpL C r W H ds vs → D.bls ds = some ns → vs = ns.map V.bl
  | _, _, _, .nil, e => by simp only [D.bls] at e; cases e; rfl
  | _, _, _, .cons (d := d) (ds := ds) h t, e => by
    cases d with
    | bl i =>
      simp only [D.bls, Option.map_eq_some_iff] at e
      obtain ⟨ns, e1, rfl⟩ := e
      rw [h.isBl, bls_rp t e1]
      rfl
    | _ => simp [D.bls] at e
def fAny : List D → Option D
  | [.lst ds] => (D.bls ds).map fun ns => .bl (ns.any id)
  | _ => none
def fAll : List D → Option D
  | [.lst ds] => (D.bls ds).map fun ns => .bl (ns.all id)
  | _ => none
theorem cs_any : CallS C fAny (rAny C.K) := fun Wx W g r σ H ds d xs Q e b p z => by
  unfold fAny at e
  split at e
  · rw [Option.map_eq_some_iff] at e
    obtain ⟨ns, e1, rfl⟩ := e
    obtain ⟨v, rfl, p'⟩ := p.one
    obtain ⟨a, us, rfl, h1, hz, q1⟩ := p'.isLst
    have eu := bls_rp q1 e1
    subst eu
    exact ⟨a, ns, rfl, .inl (.inl h1), z.here b (.bl _)⟩
  · cases e
theorem cs_all : CallS C fAll (rAll C.K) := fun Wx W g r σ H ds d xs Q e b p z => by
  unfold fAll at e
  split at e
  · rw [Option.map_eq_some_iff] at e
    obtain ⟨ns, e1, rfl⟩ := e
    obtain ⟨v, rfl, p'⟩ := p.one
    obtain ⟨a, us, rfl, h1, hz, q1⟩ := p'.isLst
    have eu := bls_rp q1 e1
    subst eu
    exact ⟨a, ns, rfl, .inl (.inl h1), z.here b (.bl _)⟩
  · cases e
/-- int of an int or of a truth value -/
def fInt1 : List D → Option D
  | [.int i] => some (.int i)
  | [.bl k] => some (.int (if k then 1 else 0))
  | _ => none
theorem cs_int1 : CallS C fInt1 (fun xs H Q => (∃ i, xs = [.int i] ∧ Q (.int i) H) ∨ ∃ k, xs = [.bl k] ∧ Q (.int (if k then 1 else 0)) H) := fun Wx W g r σ H ds d xs Q e b p z => by
  unfold fInt1 at e
  split at e
  · cases e
    obtain ⟨v, rfl, p'⟩ := p.one
    exact .inl ⟨_, by rw [p'.isInt], z.here b (.int _)⟩
  · cases e
    obtain ⟨v, rfl, p'⟩ := p.one
    exact .inr ⟨_, by rw [p'.isBl], z.here b (.int _)⟩
  · cases e

/-! ### isinstance of built-in types -/
def D.ty : D → Option String
  | .non => some "NoneType"
  | .bl _ => some "bool"
  | .int _ => some "int"
  | .str _ => some "str"
  | .lst _ => some "list"
  | .tup _ => some "tuple"
  | .dK _ => some "dict"
  | _ => none
theorem ty_rp {r : List Addr} {W : Addr → Prop} {H : Hp} {d : D} {v : V} {T : String} (h : PRp C r W H d v) (e : d.ty = some T) : TyX C.K H v (.type T) := by
  cases d with
  | non => cases e; rw [h.isNon]; exact .base .non
  | bl b => cases e; rw [h.isBl]; exact .base (.bl b)
  | int b => cases e; rw [h.isInt]; exact .base (.int b)
  | str b => cases e; rw [h.isStr]; exact .base (.str b)
  | lst b => cases e; obtain ⟨a, us, rfl, h1, _⟩ := h.isLst; exact .base (.lst h1)
  | tup b => cases e; obtain ⟨a, us, rfl, h1, _⟩ := h.isTup; exact .base (.tup h1)
  | dK b =>
    cases e
    obtain ⟨a, us, rfl, h1, _⟩ := h.isDK
    rcases h1 with h1 | ⟨o, h1⟩
    · exact .base (.dK h1)
    · exact .fDict h1
  | _ => cases e
end
/-- isinstance(e, T): tab says the answers by the types' names -/
def mIsi (tab : String → Option Bool) (m : ME) : ME := fun env g => (m env g).bind fun d g1 => match d.ty with
  | some t => match tab t with
    | some b => .ok (.bl b) g1
    | none => .stuck
  | none => .stuck
def tabInt : String → Option Bool
  | "int" => some true | "bool" => some true | "NoneType" => some false | "str" => some false | "list" => some false | "tuple" => some false | "dict" => some false | _ => none
def tabBool : String → Option Bool
  | "int" => some false | "bool" => some true | "NoneType" => some false | "str" => some false | "list" => some false | "tuple" => some false | "dict" => some false | _ => none
def tabTuple : String → Option Bool
  | "int" => some false | "bool" => some false | "NoneType" => some false | "str" => some false | "list" => some false | "tuple" => some true | "dict" => some false | _ => none
def tabStr : String → Option Bool
  | "int" => some false | "bool" => some false | "NoneType" => some false | "str" => some true | "list" => some false | "tuple" => some false | "dict" => some false | _ => none
def tabList : String → Option Bool
  | "int" => some false | "bool" => some false | "NoneType" => some false | "str" => some false | "list" => some true | "tuple" => some false | "dict" => some false | _ => none
theorem tab_ok {tab : String → Option Bool} {T : String} (h : ∀ t ∈ ["NoneType", "bool", "int", "str", "list", "tuple", "dict"], tab t = kitB t T) {d : D} {t : String} {b : Bool} (e : d.ty = some t) (e2 : tab t = some b) : kitB t T = some b := by
  rw [← e2]
  refine (h t ?_).symm
  cases d <;> cases e <;> decide
theorem tabInt_ok : ∀ t ∈ ["NoneType", "bool", "int", "str", "list", "tuple", "dict"], tabInt t = kitB t "int" := by decide +kernel
theorem tabBool_ok : ∀ t ∈ ["NoneType", "bool", "int", "str", "list", "tuple", "dict"], tabBool t = kitB t "bool" := by decide +kernel
theorem tabTuple_ok : ∀ t ∈ ["NoneType", "bool", "int", "str", "list", "tuple", "dict"], tabTuple t = kitB t "tuple" := by decide +kernel
theorem tabStr_ok : ∀ t ∈ ["NoneType", "bool", "int", "str", "list", "tuple", "dict"], tabStr t = kitB t "str" := by decide +kernel
theorem tabList_ok : ∀ t ∈ ["NoneType", "bool", "int", "str", "list", "tuple", "dict"], tabList t = kitB t "list" := by decide +kernel
section
variable {X : Cx} {C : Cst} {Wx : WX}
theorem se_isi {e : Expr} {y : Str} {T : String} {p pos p2 : Pos} {m : ME} {tab : String → Option Bool} (hK : C.K = X.K) (ht : ∀ t ∈ ["NoneType", "bool", "int", "str", "list", "tuple", "dict"], tab t = kitB t T) (he : PE X e (RP C Wx m)) (hg : Gl X "isinstance") (hm : X.mg "isinstance" = none) (gy : Gl X y) (my : X.mg y = none) (vy : bootBuiltins y = some (.type T))
    (hi : bootBuiltins "isinstance" = some (.builtin "isinstance") := by decide +kernel) (hn : y ≠ "__name__" := by decide) (hd : (y == ("__debug__" : Str)) = false := by decide)
    (h1 : starEach [e, .Name y p2] X.env = (false, eval e X.env) :: starEach [.Name y p2] X.env := by rfl) (h2 : (backTo pos (starEach [.Name y p2] X.env)).any (·.1) = false := by rfl) : PE X (.Call (.Name "isinstance" p) [e, .Name y p2] [] pos) (RE C Wx (mIsi tab m)) :=
  PEm (pe_callB call_isi hg hm hi (pa_cons he (pa_cons (pe_bltn (v := .ty T) gy my vy rfl hn hd) pa_nil) h1) (by decide) (by decide) h1 h2) fun σ H Q h => by
    obtain ⟨W, env, oas, g, r, S, P⟩ := h
    refine ⟨W, env, oas, g, r, S, Post.mono (Post.split P) fun v H1 ⟨d, g1, r1, b1, s1, p1, q1⟩ => ?_⟩
    dsimp only at q1
    split at q1
    · rename_i t e1
      split at q1
      · rename_i b e2
        rw [← hK]
        exact ⟨v, .ty T, .type t, .type T, b, rfl, .ty T, ty_rp p1 e1, kit_ty (tab_ok ht e1 e2), Post.here (d := D.bl b) (g := g1) q1 b1 (.bl b)⟩
      · exact q1.elim
    · exact q1.elim

/-! ### defs -/
/-- the promise of a def that does what F does -/
def spOf (C : Cst) (n : Nat) (F : List D → G → R D) : Sp := fun vs H Q E => ∃ r W g ds, Bs C W g r H ∧ RpL C r W H ds vs ∧ ds.length = n ∧ Post C (fun cls d _ H' => E cls d H') W r [] H (RlE C W) Q (F ds g)
theorem spOf_len {n : Nat} {F : List D → G → R D} {vs : List V} {H : Hp} {Q : VK} {E : XK} (h : spOf C n F vs H Q E) : vs.length = n := by
  obtain ⟨r, W, g, ds, _, q, e, _⟩ := h
  rw [← q.length, e]
def mFn (n : Nat) (F : List D → G → R D) (ms : MA) : ME := fun env g => (ms env g).bind fun ds g1 => if ds.length = n then F ds g1 else .stuck
theorem Post.wish {Wx Wx' : WX} {W : Addr → Prop} {r : List Addr} {σ σ' : L2.St} {H : Hp} {α β : Type} {Rl : List Addr → Hp → α → β → Prop} {Q : β → Hp → Prop} {m : R α} (h : Post C Wx W r σ H Rl Q m) (k : ∀ c d H', Wx c d σ H' → Wx' c d σ' H') : Post C Wx' W r σ' H Rl Q m := by
  cases m with
  | ok d g => exact h
  | exc c fs g => exact fun cl dx H' r' b s q => k _ _ _ (h cl dx H' r' b s q)
  | stuck => exact h
theorem re_fn {n : Nat} {F : List D → G → R D} {ms : MA} {σ : L2.St} {H : Hp} {Q : VK} (h : RE C Wx (mFn n F ms) σ H Q) : tCallS (spOf C n F) (WE Wx) (RA C Wx ms) σ H Q := by
  obtain ⟨W, env, oas, g, r, S, P⟩ := h
  refine ⟨W, env, oas, g, r, S, Post.mono (Post.split P) fun v H1 ⟨d, g1, r1, b1, s1, p1, q1⟩ => ?_⟩
  dsimp only at q1
  split at q1
  · rename_i hl
    exact ⟨r1, W, g1, d, b1, p1, hl, q1.wish fun _ _ _ z => z⟩
  · exact q1.elim
theorem se_call {k n : Nat} {f : Addr} {fd : FuncData} {ps : List Str} {F : List D → G → R D} {x : Str} {e : Expr} {es : List Expr} {p pos : Pos} {ms : MA} (Fo : FnG X.prog X.w X.K X.mg X.base (L2.CX X.prog X.w) k f fd ps (spOf C n F)) (hr : RoomG k X.A) (hm : X.mg x = some (.ref f)) (hk : PySem.W.keepIn X.K (.ref f) = true) (hb : Binds X.K fd ps []) (tk : Takes X Wx)
    (hg : Gl X x) (ha : PA X (e :: es) (RA C Wx ms)) (hdb : (x == ("__debug__" : Str)) = false := by decide) (he : starEach (e :: es) X.env = (false, eval e X.env) :: starEach es X.env := by rfl) (hpl : (backTo pos (starEach es X.env)).any (·.1) = false := by rfl) :
    PE X (.Call (.Name x p) (e :: es) [] pos) (RE C Wx (mFn n F ms)) :=
  PEm (pe_callG (E := WE Wx) Fo hr hg hm hk hb (fun σ => passAt tk σ) ha hdb he hpl) fun _ _ _ h => re_fn h
theorem pe_callS0 {CX : CXT} {k : Nat} {f : Addr} {fd : FuncData} {ps : List Str} {sp : Sp} {E : L2.St → XK} {x : Str} {p pos : Pos} (F : FnG X.prog X.w X.K X.mg X.base CX k f fd ps sp) (hr : RoomG k X.A) (hg : Gl X x) (hm : X.mg x = some (.ref f)) (hk : PySem.W.keepIn X.K (.ref f) = true) (hb : Binds X.K fd ps []) (hx : ∀ σ, PassesAt CX X σ (E σ))
    (hdb : (x == ("__debug__" : Str)) = false := by decide) : PE X (.Call (.Name x p) [] [] pos) (tCallS sp E tNil) := by
  refine ⟨fun pins s σ H Q I h => ?_⟩
  refine wpAny_Call_Name_kw (ld_glob I hg hm ?_ hdb)
  exact PySem.W.callWith_K0 I.kIn hk (run_fnG (us := []) F hr hb (hx σ) I .nil h)
theorem se_call0 {k n : Nat} {f : Addr} {fd : FuncData} {ps : List Str} {F : List D → G → R D} {x : Str} {p pos : Pos} (Fo : FnG X.prog X.w X.K X.mg X.base (L2.CX X.prog X.w) k f fd ps (spOf C n F)) (hr : RoomG k X.A) (hm : X.mg x = some (.ref f)) (hk : PySem.W.keepIn X.K (.ref f) = true) (hb : Binds X.K fd ps []) (tk : Takes X Wx)
    (hg : Gl X x) (hdb : (x == ("__debug__" : Str)) = false := by decide) : PE X (.Call (.Name x p) [] [] pos) (RE C Wx (mFn n F mNil)) :=
  PEm (pe_callS0 (E := WE Wx) Fo hr hg hm hk hb (fun σ => passAt tk σ) hdb) fun σ H Q h => by
    obtain ⟨W, env, oas, g, r, S, P⟩ := h
    unfold mFn mNil R.bind at P
    dsimp only at P
    split at P
    · rename_i hl
      exact ⟨r, W, g, [], S.bs, .nil, hl, P.wish fun _ _ _ z => z⟩
    · exact P.elim
end
end GT

/-! GtE: targets, loops, comprehensions, statements, defs. -/
namespace GT
open PySem PySem.Spec PyProof.Rows L2

section
variable {C : Cst} {r r' : List Addr} {W W' : Addr → Prop} {H H' : Hp} {g g' : G} {env : Ev} {oas : List (Option Addr)} {σ : L2.St}
theorem mem_set_none {l : List (Option Addr)} {i : Nat} {a : Addr} (h : some a ∈ l.set i none) : some a ∈ l := by
  rcases List.mem_or_eq_of_mem_set h with q | q
  · exact q
  · cases q
theorem get_set_none {l : List (Option Addr)} {i j : Nat} {a : Addr} (h : (l.set i none)[j]? = some (some a)) : l[j]? = some (some a) ∧ j ≠ i := by
  by_cases e : i = j
  · subst e
    by_cases hl : i < l.length
    · rw [List.getElem?_set_self hl] at h; cases h
    · rw [List.getElem?_eq_none (by simpa using hl)] at h; cases h
  · rw [List.getElem?_set_ne e] at h
    exact ⟨h, fun z => e z.symm⟩
theorem Sm.anti (m : Sm C W env oas g r σ H) (hw : ∀ a, W' a → W a) (ho : ∀ a, some a ∈ oas → W' a) : Sm C W' env oas g r σ H :=
  ⟨m.bs.anti hw, m.sl.keep ⟨fun _ _ h => h, fun a q => q.elim .inl fun q => .inr (.inl (hw a q)), fun _ _ h _ _ _ => h, fun _ h => h⟩ fun _ _ => rfl, ho, m.ownd⟩
theorem Sm.setV (m : Sm C W env oas g r σ H) (i : Nat) {d : D} {v : V} (h : Rp C r W H d v) : Sm C W (env.set i (.val d)) (oas.set i none) g r (σ.set i (some v)) H where
  bs := m.bs
  sl := m.sl.set (.val h) i
  own := fun a q => m.own a (mem_set_none q)
  ownd := fun j k a h1 h2 => m.ownd j k a (get_set_none h1).1 (get_set_none h2).1
theorem Sm.setNo (m : Sm C W env oas g r σ H) (i : Nat) (v : Option V) : Sm C W (env.set i .no) (oas.set i none) g r (σ.set i v) H where
  bs := m.bs
  sl := m.sl.set .no i
  own := fun a q => m.own a (mem_set_none q)
  ownd := fun j k a h1 h2 => m.ownd j k a (get_set_none h1).1 (get_set_none h2).1
end

theorem R.bind_assoc {α β γ : Type} (m : R α) (f : α → G → R β) (k : β → G → R γ) : (m.bind f).bind k = m.bind fun a g => (f a g).bind k := by
  cases m <;> rfl
/-! ### targets -/
theorem wipe_set (x : Option V) {i : Nat} : ∀ {vs : List Nat} (σ : L2.St), i ∈ vs → wipe (σ.set i x) vs = wipe σ vs
  | [], _, h => by cases h
  | v :: vs, σ, h => by
    show (wipe (σ.set i x) vs).set v none = (wipe σ vs).set v none
    by_cases hv : i ∈ vs
    · rw [wipe_set x σ hv]
    · have e : i = v := by
        rcases List.mem_cons.mp h with e | e
        · exact e
        · exact absurd e hv
      subst e
      have : ∀ (us : List Nat) (τ : L2.St), i ∉ us → wipe (τ.set i x) us = (wipe τ us).set i x := fun us => by
        induction us with
        | nil => intro τ _; rfl
        | cons u us ih =>
          intro τ hu
          show (wipe (τ.set i x) us).set u none = ((wipe τ us).set u none).set i x
          rw [ih τ fun z => hu (List.mem_cons_of_mem _ z), List.set_comm _ _ (fun z => hu (by rw [z]; exact List.mem_cons_self ..))]
      rw [this vs σ hv, List.set_set]
theorem wipe_wipe (vs : List Nat) (σ : L2.St) : wipe (wipe σ vs) vs = wipe σ vs := by
  have : ∀ (us : List Nat) (τ : L2.St), (∀ u ∈ us, u ∈ vs) → wipe (wipe τ us) vs = wipe τ vs := fun us => by
    induction us with
    | nil => intro τ _; rfl
    | cons u us ih =>
      intro τ hu
      show wipe ((wipe τ us).set u none) vs = wipe τ vs
      rw [wipe_set none _ (hu u (List.mem_cons_self ..)), ih τ fun z hz => hu z (List.mem_cons_of_mem _ hz)]
  exact this vs σ fun _ h => h
abbrev Bnd := D → Ev → Option Ev
def BindS (C : Cst) (is : List Nat) (tg : TG) (bind : Bnd) : Prop := ∀ (W : Addr → Prop) (env : Ev) (oas : List (Option Addr)) (g : G) (r : List Addr) (σ : L2.St) (H : Hp) (d : D) (x : V) (env' : Ev) (Q : L2.St → Hp → Prop), Sm C W env oas g r σ H → Rp C r W H d x → bind d env = some env' →
  (∀ σ' oas', Sm C W env' oas' g r σ' H → (∀ a, some a ∈ oas' → some a ∈ oas) → (∀ vs, (∀ i ∈ is, i ∈ vs) → wipe σ' vs = wipe σ vs) → Q σ' H) → tg x σ H Q
def bName (i : Nat) : Bnd := fun d env => some (env.set i (.val d))
section
variable {C : Cst}
theorem bs_name (i : Nat) : BindS C [i] (gName i) (bName i) := fun W env oas g r σ H d x env' Q m h e k => by
  cases e
  exact k _ _ (m.setV i h) (fun a q => mem_set_none q) fun vs hv => wipe_set _ _ (hv i (List.mem_cons_self ..))
/-- names, one after another -/
def bNames : List Nat → List D → Ev → Option Ev
  | [], [], env => some env
  | i :: is, d :: ds, env => bNames is ds (env.set i (.val d))
  | _, _, _ => none
def gNames : List Nat → TGs
  | [] => gNil
  | i :: is => gCons (gName i) (gNames is)
def bTup (is : List Nat) : Bnd := fun d env => match d with
  | .tup ds => bNames is ds env
  | _ => none
theorem bNames_len : ∀ {is : List Nat} {ds : List D} {env env' : Ev}, bNames is ds env = some env' → ds.length = is.length
  | [], [], _, _, _ => rfl
  | [], _ :: _, _, _, e => by simp [bNames] at e
  | _ :: _, [], _, _, e => by simp [bNames] at e
  | i :: is, d :: ds, env, env', e => by
    simp only [bNames] at e
    simp [bNames_len e]
theorem bs_names {W : Addr → Prop} {g : G} {r : List Addr} {H : Hp} {Q : L2.St → Hp → Prop} : ∀ (is : List Nat) {ds : List D} {xs : List V} {env env' : Ev} {oas : List (Option Addr)} {σ : L2.St}, Sm C W env oas g r σ H → RpL C r W H ds xs → bNames is ds env = some env' →
    (∀ σ' oas', Sm C W env' oas' g r σ' H → (∀ a, some a ∈ oas' → some a ∈ oas) → (∀ vs, (∀ i ∈ is, i ∈ vs) → wipe σ' vs = wipe σ vs) → Q σ' H) → gNames is xs σ H Q
  | [], _, _, _, _, _, _, m, .nil, e, k => by
    simp only [bNames] at e
    cases e
    exact ⟨rfl, k _ _ m (fun _ q => q) fun _ _ => rfl⟩
  | [], _, _, _, _, _, _, _, .cons _ _, e, _ => by simp [bNames] at e
  | _ :: _, _, _, _, _, _, _, _, .nil, e, _ => by simp [bNames] at e
  | i :: is, _, _, _, _, _, _, m, .cons h t, e, k => by
    simp only [bNames] at e
    refine ⟨_, _, rfl, ?_⟩
    refine bs_names is (m.setV i h) t e fun σ' oas' m' o' w' => k σ' oas' m' (fun a q => mem_set_none (o' a q)) fun vs hv => ?_
    rw [w' vs fun j hj => hv j (List.mem_cons_of_mem _ hj)]
    exact wipe_set _ _ (hv i (List.mem_cons_self ..))
theorem bs_tup (is : List Nat) : BindS C is (gTup C.K is.length (gNames is)) (bTup is) := fun W env oas g r σ H d x env' Q m h e k => by
  unfold bTup at e
  split at e
  · rename_i ds
    cases h with
    | tup h hz hr hw q =>
      refine ⟨_, _, rfl, .inl (.inl h), ?_, bs_names is m q e k⟩
      rw [← q.length, bNames_len e]
  · cases e
end
section
variable {X : Cx}
theorem pgs_names_nil : PGs X [] (gNames []) := pgs_nil
theorem pgs_names_cons {i : Nat} {is : List Nat} {x : Str} {pos : Pos} {es : List Expr} (hN : X.N.Nodup) (hi : X.N[i]? = some x) (hx : Loc X.env.scope x) (h2 : PGs X es (gNames is))
    (hs : (assignEach (.Name x pos :: es) X.env).map (·.2) = assign (.Name x pos) X.env :: (assignEach es X.env).map (·.2) := by rfl) (hf : X.fn x = true ∨ X.env.scope.names.lookup x = some .local := by first | exact .inl rfl | exact .inr rfl | assumption) : PGs X (.Name x pos :: es) (gNames (i :: is)) :=
  pgs_cons (pg_name hN hi hx hf) h2 hs
end

/-! ### what is walked -/
abbrev MI := Ev → G → R (List D)
/-- J walks the items ds -/
def ItR (C : Cst) (r : List Addr) (W : Addr → Prop) (H : Hp) (ds : List D) (J : It) : Prop := ds.length ≤ sizeLine ∧ ∃ (Gd : Hp → Prop) (Y : Nat → Hp → V → Hp → Prop), Walk J ds.length Gd Y ∧
  (∀ r' W' H', Kp r r' W W' H H' → Gd H') ∧
  ∀ (i : Nat) r' W' (g' : G) H' x H'', Kp r r' W W' H H' → Bs C W' g' r' H' → i < ds.length → Y i H' x H'' → ∃ d, ds[i]? = some d ∧ Bs C W' g' r' H'' ∧ Step r' r' H' H'' ∧ Rp C r' W' H'' d x
def RI (C : Cst) (Wx : WX) (m : MI) : TI := fun σ H Q => ∃ W env oas g r, Sm C W env oas g r σ H ∧ Post C Wx W r σ H (fun r' H' ds J => ItR C r' W H' ds J) Q (m env g)
/-- the same, for a walk while one's own objects stay -/
def ItQ (C : Cst) (oas : List (Option Addr)) (r : List Addr) (W : Addr → Prop) (H : Hp) (ds : List D) (J : It) : Prop := ds.length ≤ sizeLine ∧ ∃ (Gd : Hp → Prop) (Y : Nat → Hp → V → Hp → Prop), Walk J ds.length Gd Y ∧
  (∀ r' W' H', Kp r r' W W' H H' → (∀ a, some a ∈ oas → H' a = H a) → Gd H') ∧
  ∀ (i : Nat) r' W' (g' : G) H' x H'', Kp r r' W W' H H' → (∀ a, some a ∈ oas → H' a = H a) → Bs C W' g' r' H' → i < ds.length → Y i H' x H'' → ∃ d, ds[i]? = some d ∧ Bs C W' g' r' H'' ∧ Step r' r' H' H'' ∧ Rp C r' W' H'' d x
theorem ItR.q {C : Cst} {oas : List (Option Addr)} {r : List Addr} {W : Addr → Prop} {H : Hp} {ds : List D} {J : It} (h : ItR C r W H ds J) : ItQ C oas r W H ds J := by
  obtain ⟨hz, Gd, Y, w, st, yl⟩ := h
  exact ⟨hz, Gd, Y, w, fun r' W' H' k _ => st r' W' H' k, fun i r' W' g' H' x H'' k _ => yl i r' W' g' H' x H'' k⟩
def RIq (C : Cst) (Wx : WX) (m : MI) : TI := fun σ H Q => ∃ W env oas g r, Sm C W env oas g r σ H ∧ Post C Wx W r σ H (fun r' H' ds J => ItQ C oas r' W H' ds J) Q (m env g)
theorem PIm {X : Cx} {tg e : Expr} {t t' : TI} (h : PI X tg e t) (k : ∀ σ H Q, t' σ H Q → t σ H Q) : PI X tg e t' := ⟨fun pins s σ H Q I q => h.run pins s σ H Q I (k σ H Q q)⟩
/-- the items of a list, a tuple -/
def mItL (m : ME) : MI := fun env g => (m env g).bind fun d g1 => match d with
  | .lst ds => .ok ds g1
  | .scr ns => .ok (ns.map .int) g1
  | _ => .stuck
def mItT (m : ME) : MI := fun env g => (m env g).bind fun d g1 => match d with
  | .tup ds => .ok ds g1
  | _ => .stuck
section
variable {X : Cx} {C : Cst} {Wx : WX}
theorem RpL.ints {r : List Addr} {W : Addr → Prop} {H : Hp} : ∀ (ns : List Int), RpL C r W H (ns.map D.int) (ns.map V.int)
  | [] => .nil
  | n :: ns => .cons (.int n) (RpL.ints ns)
theorem itr_at {r : List Addr} {W : Addr → Prop} {H : Hp} {ds : List D} {xs : List V} {J : It} {Gd : Hp → Prop} (hz : xs.length ≤ sizeLine) (q : RpL C r W H ds xs) (w : Walk J xs.length Gd (YAt xs)) (st : ∀ r' W' H', Kp r r' W W' H H' → Gd H') : ItR C r W H ds J := by
  refine ⟨by rw [q.length]; exact hz, Gd, YAt xs, by rw [q.length]; exact w, st, fun i r' W' g' H' x H'' k b hi y => ?_⟩
  obtain ⟨e, y⟩ := y
  subst e
  obtain ⟨d, h1, h2⟩ := (q.keep k).getV y
  exact ⟨d, h1, b, Step.refl _ _, h2⟩
theorem siq {e tg : Expr} {m : MI} (h : PI X tg e (RI C Wx m)) : PI X tg e (RIq C Wx m) := PIm h fun σ H Q h => by
  obtain ⟨W, env, oas, g, r, S, P⟩ := h
  refine ⟨W, env, oas, g, r, S, ?_⟩
  revert P
  cases m env g with
  | ok ds g1 => exact fun P v H' r' b s q => P v H' r' b s q.q
  | exc c fs g1 => exact fun P => P
  | stuck => exact fun P => P
/-- a list of one's own that may still grow -/
def mItO (i : Nat) : MI := fun env g => match env[i]? with
  | some (.ol ds) => .ok ds g
  | _ => .stuck
theorem siq_own (i : Nat) {tg : Expr} {x : Str} {pos : Pos} (hK : C.K = X.K) (hN : X.N[i]? = some x := by rfl) (hv : Vis X.env.scope x := by first | exact Or.inl rfl | exact Or.inr (Or.inl rfl) | exact Or.inr (Or.inr rfl)) (hd : (x == ("__debug__" : Str)) = false := by decide)
    (hcd : (x == ("__classdict__" : Str)) = false := by decide) : PI X tg (.Name x pos) (RIq C Wx (mItO i)) := PIm (pi_list (pe_var hN hv hd hcd)) fun σ H Q h => by
  obtain ⟨W, env, oas, g, r, S, P⟩ := h
  rw [← hK]
  unfold mItO at P
  split at P
  · rename_i ds hd
    obtain ⟨o, v, h1, h2, h3⟩ := S.sl.get hd
    cases h3 with
    | @ol a _ xs h hz q =>
      have hm : some a ∈ oas := List.mem_of_getElem? h1
      refine ⟨_, h2, _, rfl, ⟨_, .inl (.inl h)⟩, P _ H r S.bs (Step.refl _ _) ⟨by rw [q.length]; exact hz, _, YAt xs, by rw [q.length]; exact walk_list (K := C.K) (a := a) (xs := xs), fun r' W' H' k e => Or.inl (Or.inl ((e a hm).trans h)), fun i r' W' g' H' x H'' k _ b hi y => ?_⟩⟩
      obtain ⟨e, y⟩ := y
      subst e
      obtain ⟨d, h1, h2⟩ := (q.keep k).getV y
      exact ⟨d, h1, b, Step.refl _ _, h2⟩
  · exact P.elim
theorem si_list {e tg : Expr} {m : ME} (hK : C.K = X.K) (he : PE X e (RE C Wx m)) : PI X tg e (RI C Wx (mItL m)) := PIm (pi_list he) fun σ H Q h => by
  obtain ⟨W, env, oas, g, r, S, P⟩ := h
  refine ⟨W, env, oas, g, r, S, Post.mono (Post.split P) fun v H1 ⟨d, g1, r1, b1, s1, p1, q1⟩ => ?_⟩
  rw [← hK]
  dsimp only at q1
  split at q1
  · cases p1 with
    | lst h hz hr hw q =>
      refine ⟨_, rfl, ⟨_, .inl (.inl h)⟩, Post.here q1 b1 (itr_at hz q walk_list fun r' W' H' k => .inl (.inl (k.ext _ _ h hr hw (fun _ z => by cases z))))⟩
  · rename_i ns
    cases p1 with
    | scr h hz hr hw =>
      refine ⟨_, rfl, ⟨_, .inl h⟩, Post.here q1 b1 (itr_at (by rw [List.length_map]; exact hz) (RpL.ints ns) walk_list fun r' W' H' k => .inl (Rd.keep h (fun _ z => by cases z) fun u e n => k.ext _ u e hr hw n))⟩
    | scrK h1 h2 h3 h4 h5 h6 =>
      have hz : (ns.map V.int).length ≤ sizeLine := by
        have := h6.length
        rw [this, Array.length_toList]; exact h5
      refine ⟨_, rfl, ⟨_, .inr ⟨_, _, _, h1, h2, h3, h4, h5, h6⟩⟩, Post.here q1 b1 (itr_at hz (RpL.ints ns) walk_list fun r' W' H' k => .inr ⟨_, _, _, h1, h2, h3, h4, h5, h6⟩)⟩
  · exact q1.elim
theorem si_tup {e tg : Expr} {m : ME} (hK : C.K = X.K) (he : PE X e (RE C Wx m)) : PI X tg e (RI C Wx (mItT m)) := PIm (pi_tup he) fun σ H Q h => by
  obtain ⟨W, env, oas, g, r, S, P⟩ := h
  refine ⟨W, env, oas, g, r, S, Post.mono (Post.split P) fun v H1 ⟨d, g1, r1, b1, s1, p1, q1⟩ => ?_⟩
  rw [← hK]
  dsimp only at q1
  split at q1
  · cases p1 with
    | tup h hz hr hw q =>
      refine ⟨_, rfl, ⟨_, .inl (.inl h)⟩, Post.here q1 b1 (itr_at hz q walk_tup fun r' W' H' k => .inl (.inl (k.ext _ _ h hr hw (fun _ z => by cases z))))⟩
  · exact q1.elim

/-! ### range -/
def rgD (a b : Int) : List D := (List.range (b - a).toNat).map fun i => .int (a + (i : Nat))
def rgOk (a b : Int) : Bool := decide (-(2 ^ 60) ≤ a) && decide (a ≤ 2 ^ 60) && decide (-(2 ^ 60) ≤ b) && decide (b ≤ 2 ^ 60) && decide ((b - a).toNat ≤ 1000000)
theorem rgOk_ok {a b : Int} (h : rgOk a b = true) : -(2 ^ 60) ≤ a ∧ a ≤ 2 ^ 60 ∧ -(2 ^ 60) ≤ b ∧ b ≤ 2 ^ 60 ∧ (b - a).toNat ≤ 1000000 := by
  simp only [rgOk, Bool.and_eq_true, decide_eq_true_eq] at h
  exact ⟨h.1.1.1.1, h.1.1.1.2, h.1.1.2, h.1.2, h.2⟩
def mRg1 (m : ME) : MI := fun env g => (m env g).bind fun d g1 => match d with
  | .int b => if rgOk 0 b then .ok (rgD 0 b) g1 else .stuck
  | _ => .stuck
def mRg2 (m m2 : ME) : MI := fun env g => (m env g).bind fun d g1 => (m2 env g1).bind fun e g2 => match d, e with
  | .int a, .int b => if rgOk a b then .ok (rgD a b) g2 else .stuck
  | _, _ => .stuck
theorem itr_rg {r : List Addr} {W : Addr → Prop} {H : Hp} {a b : Int} (h : (b - a).toNat ≤ 1000000) : ItR C r W H (rgD a b) (Itr a (b - a).toNat) := by
  have hl : (rgD a b).length = (b - a).toNat := by unfold rgD; rw [List.length_map, List.length_range]
  refine ⟨by rw [hl]; exact mil h, _, _, by rw [hl]; exact walk_range, fun _ _ _ _ => trivial, fun i r' W' g' H' x H'' k b hi y => ?_⟩
  obtain ⟨e, y⟩ := y
  subst e
  rw [hl] at hi
  refine ⟨.int (a + (i : Nat)), ?_, b, Step.refl _ _, by rw [y]; exact .int _⟩
  unfold rgD
  rw [List.getElem?_map, List.getElem?_range hi]
  rfl
theorem si_rg1 {a tg : Expr} {m : ME} {p pos : Pos} (hg : Gl X "range") (hm : X.mg "range" = none) (ha : PE X a (RE C Wx m)) (hs : starEach [a] X.env = [(false, eval a X.env)] := by rfl) : PI X tg (.Call (.Name "range" p) [a] [] pos) (RI C Wx (mRg1 m)) :=
  PIm (pi_range1 hg hm (pa_cons ha pa_nil hs) hs) fun σ H Q h => by
    obtain ⟨W, env, oas, g, r, S, P⟩ := h
    refine ⟨W, env, oas, g, r, S, Post.mono (Post.split P) fun v H1 ⟨d, g1, r1, b1, s1, p1, q1⟩ => ?_⟩
    dsimp only at q1
    split at q1
    · rename_i b
      split at q1
      · rename_i hk
        obtain ⟨h1, h2, h3, h4, h5⟩ := rgOk_ok hk
        refine ⟨b, by rw [p1.isInt], by omega, by omega, Post.here q1 b1 ?_⟩
        have := itr_rg (C := C) (r := r1) (W := W) (H := H1) h5
        rw [Int.sub_zero] at this
        exact this
      · exact q1.elim
    · exact q1.elim
theorem si_rg2 {a b tg : Expr} {m m2 : ME} {p pos : Pos} (hg : Gl X "range") (hm : X.mg "range" = none) (ha : PE X a (RE C Wx m)) (hb : PE X b (RE C Wx m2)) (hs : starEach [a, b] X.env = [(false, eval a X.env), (false, eval b X.env)] := by rfl) (hs2 : starEach [b] X.env = [(false, eval b X.env)] := by rfl) : PI X tg (.Call (.Name "range" p) [a, b] [] pos) (RI C Wx (mRg2 m m2)) :=
  PIm (pi_range2 hg hm (pa_cons ha (pa_cons hb pa_nil hs2) (by rw [hs, hs2])) hs hs2) fun σ H Q h => by
    obtain ⟨W, env, oas, g, r, S, P⟩ := h
    refine ⟨W, env, oas, g, r, S, Post.mono (Post.split P) fun v H1 ⟨d, g1, r1, b1, s1, p1, q1⟩ => ⟨W, env, oas, g1, r1, S.step s1 b1, Post.mono (Post.split q1) fun w H2 ⟨e, g2, r2, b2, s2, p2, q2⟩ => ?_⟩⟩
    dsimp only at q2
    split at q2
    · split at q2
      · rename_i hk
        obtain ⟨h1, h2, h3, h4, h5⟩ := rgOk_ok hk
        exact ⟨_, _, by rw [p1.isInt, p2.isInt], ⟨by omega, by omega, by omega, by omega⟩, Post.here q2 b2 (itr_rg h5)⟩
      · exact q2.elim
    · exact q2.elim
/-- list(range(..)), tuple(range(..)): the items as they are walked -/
def mLstI (m : MI) : ME := fun env g => (m env g).bind fun ds g1 => .ok (.lst ds) g1
def mTupI (m : MI) : ME := fun env g => (m env g).bind fun ds g1 => .ok (.tup ds) g1
theorem rgD_rp {r : List Addr} {W : Addr → Prop} {H : Hp} (a b : Int) : RpL C r W H (rgD a b) (rgV a b) := by
  unfold rgD rgV
  have : ∀ l : List Nat, RpL C r W H (l.map fun i => D.int (a + (i : Nat))) (l.map fun i => V.int (a + (i : Nat))) := fun l => by
    induction l with
    | nil => exact .nil
    | cons x l ih => exact .cons (.int _) ih
  exact this _
theorem se_listRg1 {a : Expr} {m : ME} {p p2 pos pos2 : Pos} (hc : X.calm = true) (hgl : Gl X "list") (hml : X.mg "list" = none) (hg : Gl X "range") (hm : X.mg "range" = none) (ha : PE X a (RE C Wx m)) (na : starEach [a] X.env = (false, eval a X.env) :: starEach [] X.env := by rfl)
    (nb : starEach [.Call (.Name "range" p) [a] [] pos] X.env = (false, eval (.Call (.Name "range" p) [a] [] pos) X.env) :: starEach [] X.env := by rfl) : PE X (.Call (.Name "list" p2) [.Call (.Name "range" p) [a] [] pos] [] pos2) (RE C Wx (mLstI (mRg1 m))) :=
  PEm (pe_listRg hc hgl hml (prg_1 hg hm ha na) nb) fun σ H Q h => by
    obtain ⟨W, env, oas, g, r, S, P⟩ := h
    refine ⟨W, env, oas, g, r, S, Post.mono (Post.split (show Post C Wx W r σ H (RlE C W) Q ((m env g).bind fun d g1 => ((match d with | .int b => if rgOk 0 b then R.ok (rgD 0 b) g1 else R.stuck | _ => R.stuck) : R (List D)).bind fun ds g1 => .ok (.lst ds) g1) from ?_)) fun v H1 ⟨d, g1, r1, b1, s1, p1, q1⟩ => ?_⟩
    · unfold mLstI mRg1 at P
      rw [R.bind_assoc] at P
      exact P
    · cases d with
      | int b =>
        dsimp only at q1
        split at q1
        · rename_i hk
          obtain ⟨h1, h2, h3, h4, h5⟩ := rgOk_ok hk
          refine ⟨b, p1.isInt, ⟨by omega, by omega, by omega, by omega, by omega⟩, fun q hq => q1 _ _ r1 (b1.upd hq) (Step.upd hq) (Rp.newL b1 hq ?_ (rgD_rp 0 b))⟩
          rw [rgV_length]; exact mil h5
        · exact q1.elim
      | _ => exact q1.elim
theorem se_listRg2 {a b : Expr} {m m2 : ME} {p p2 pos pos2 : Pos} (hc : X.calm = true) (hgl : Gl X "list") (hml : X.mg "list" = none) (hg : Gl X "range") (hm : X.mg "range" = none) (ha : PE X a (RE C Wx m)) (hb : PE X b (RE C Wx m2)) (na : starEach [a, b] X.env = (false, eval a X.env) :: starEach [b] X.env := by rfl)
    (nb : starEach [b] X.env = (false, eval b X.env) :: starEach [] X.env := by rfl) (hp : (backTo pos (starEach [b] X.env)).any (·.1) = false := by rfl)
    (nc : starEach [.Call (.Name "range" p) [a, b] [] pos] X.env = (false, eval (.Call (.Name "range" p) [a, b] [] pos) X.env) :: starEach [] X.env := by rfl) : PE X (.Call (.Name "list" p2) [.Call (.Name "range" p) [a, b] [] pos] [] pos2) (RE C Wx (mLstI (mRg2 m m2))) :=
  PEm (pe_listRg hc hgl hml (prg_2 hg hm ha hb na nb hp) nc) fun σ H Q h => by
    obtain ⟨W, env, oas, g, r, S, P⟩ := h
    refine ⟨W, env, oas, g, r, S, Post.mono (Post.split (show Post C Wx W r σ H (RlE C W) Q ((m env g).bind fun d g1 => (m2 env g1).bind fun e g2 => ((match d, e with | .int a, .int b => if rgOk a b then R.ok (rgD a b) g2 else R.stuck | _, _ => R.stuck) : R (List D)).bind fun ds g1 => .ok (.lst ds) g1) from ?_)) fun v H1 ⟨d, g1, r1, b1, s1, p1, q1⟩ => ⟨W, env, oas, g1, r1, S.step s1 b1, Post.mono (Post.split q1) fun w H2 ⟨e, g2, r2, b2, s2, p2, q2⟩ => ?_⟩⟩
    · unfold mLstI mRg2 at P
      rw [R.bind_assoc] at P
      simp only [R.bind_assoc] at P
      exact P
    · dsimp only at q2
      split at q2
      · split at q2
        · rename_i hk
          obtain ⟨h1, h2, h3, h4, h5⟩ := rgOk_ok hk
          refine ⟨_, _, p1.isInt, p2.isInt, ⟨by omega, by omega, by omega, by omega, by omega⟩, fun q hq => q2 _ _ r2 (b2.upd hq) (Step.upd hq) (Rp.newL b2 hq ?_ (rgD_rp _ _))⟩
          rw [rgV_length]; exact mil h5
        · exact q2.elim
      · exact q2.elim
end
/-! ### enumerate of a tuple -/
theorem meets_enumerate_newT (l : Addr) (items : Array Value) :
    Meets (Builtin.«enumerate.__new__» ⟨[.type "enumerate", .ref l], []⟩) (fun _ R s => s.heap.IsTuple l items ∧
      R (.ok (.ret (.ref (s.heap.push { cls := .type "tuple_iterator", data := .fields #[.ref l, .int 0 0] }).objs.size)))
        { s with heap := (s.heap.push { cls := .type "tuple_iterator", data := .fields #[.ref l, .int 0 0] }).push { cls := .type "enumerate", data := .fields #[.none, .bool false, .ref s.heap.objs.size, rawInt 0, .none, .none] } }) :=
  .of_wp fun prog w A R s h => by
    obtain ⟨hp, g, d, tk, os⟩ := s; obtain ⟨h1, h⟩ := h
    have hsub := sub_enumerate
    have q1 : ∀ {A' : Around} {E : Value → Shared → Prop} {Q : Value → Shared → Prop}, Q (.ref hp.objs.size) ⟨hp.push { cls := .type "tuple_iterator", data := .fields #[.ref l, .int 0 0] }, g, d, tk, os⟩ → wpAny (model prog w) A' (pyIter (.ref l)) Q E ⟨hp, g, d, tk, os⟩ :=
      fun q => wpAny_pyIter_tuple (s := ⟨hp, g, d, tk, os⟩) h1 q
    wp_walk using q1
    refine wpAny_stack_any fun st => wpAny_pure ?_
    split
    · rename_i c _ _ _ _ _
      cases (c == Value.type "enumerate")
      · wp_walk using q1
        exact ⟨_, rfl, h⟩
      · wp_walk using q1
        exact ⟨_, rfl, h⟩
    · wp_walk using q1
      exact ⟨_, rfl, h⟩
theorem call_enumerate_tuple {prog : Program} {w : World} {A : Around} {E : Value → Shared → Prop} {s : Shared} {l : Addr} {items : Array Value} {Q : Value → Shared → Prop} (hL : s.heap.IsTuple l items)
    (h : ∀ h', IsEnum h' (s.heap.objs.size + 1) s.heap.objs.size 0 .none → h'.IsTupleIter s.heap.objs.size l 0 → h'.objs.size = s.heap.objs.size + 2 →
      (∀ b o, s.heap.get? b = some o → h'.get? b = some o) → Q (.ref (s.heap.objs.size + 1)) { s with heap := h' }) :
    wpAny (model prog w) A (call (.type "enumerate") [.ref l]) Q E s := by
  refine callType_new F.called_enumerate (by decide) (F.typeCall_enumerate_1 _) (F.newCall_enumerate_1 _) (fun obj => F.args_object_init_2 obj _) F.entry_enumerate_new
    (meets_enumerate_newT l items) ⟨hL, ?_⟩
  have hz : (s.heap.push { cls := .type "tuple_iterator", data := .fields #[.ref l, .int 0 0] }).objs.size = s.heap.objs.size + 1 := Heap.size_push ..
  show _ ∧ _
  rw [hz]
  have he : IsEnum ((s.heap.push { cls := .type "tuple_iterator", data := .fields #[.ref l, .int 0 0] }).push
      { cls := .type "enumerate", data := .fields #[.none, .bool false, .ref s.heap.objs.size, rawInt 0, .none, .none] }) (s.heap.objs.size + 1) s.heap.objs.size 0 .none := by
    have := Heap.get?_push_size (s.heap.push { cls := .type "tuple_iterator", data := .fields #[.ref l, .int 0 0] })
      (o := { cls := .type "enumerate", data := .fields #[.none, .bool false, .ref s.heap.objs.size, rawInt 0, .none, .none] }) rfl
    rw [hz] at this; exact this
  refine ⟨⟨_, he, rfl⟩, h _ he ⟨_, Heap.get?_push_of_some _ (Heap.get?_push_size _ rfl), rfl, rfl⟩ (by rw [Heap.size_push, hz]) fun b o x => Heap.get?_push_of_some _ (Heap.get?_push_of_some _ x)⟩
/-- the tuple at a, each item in a new pair -/
def IteT (a : Addr) : It :=
  ⟨fun i H => ∃ (xs : List V) (x : V), H a = some (.tup xs) ∧ xs[i]? = some x, fun i H v H' => ∃ T x, v = .ref T ∧ H T = none ∧ H' = upd H T (.tup [.int (i : Nat), x]) ∧ ∀ xs, H a = some (.tup xs) → xs[i]? = some x, fun i H => ∃ xs : List V, H a = some (.tup xs) ∧ xs.length = i⟩
theorem turn_enumT {P : Program} {w : World} {K : PySem.W.Frag} {elts : List Expr} {kk : Nat} {tpos : Pos} (a e it : Addr) :
    Turn P w K (.Tuple elts kk tpos) (IteT a) [e, it] e (fun i h => (∃ old, IsEnum h e it ((i : Nat) : Int) old) ∧ h.IsTupleIter it a i ∧ e ≠ it) where
  mem := by simp
  obj := fun i h st b hb => by
    obtain ⟨⟨old, he⟩, ⟨o, ho, hc, hd⟩, _⟩ := st
    have e' : b = e ∨ b = it := by simpa using hb
    rcases e' with z | z
    · rw [z]; exact ⟨_, he, fun v q => nomatch q⟩
    · rw [z]; exact ⟨o, ho, fun v q => by rw [hd] at q; cases q⟩
  keep := fun i h h' st k => let ⟨⟨old, he⟩, hi, hne⟩ := st; ⟨⟨old, k e (by simp) _ he⟩, hi.at fun o q => k it (by simp) o q, hne⟩
  item := by
    intro X hP hw hK hc i pins s σ H E I hf st hg
    subst hP hw hK
    obtain ⟨⟨old, he⟩, hit, hne⟩ := st
    obtain ⟨xs, x, hq, hx⟩ := hg
    obtain ⟨its, rv, p, hz⟩ := I.tuple (.inl (.inl hq))
    obtain ⟨u, hu, ru⟩ := rv.get hx
    have hel : e < s.heap.objs.size := Heap.lt_size he
    have hil : it < s.heap.objs.size := by obtain ⟨_, q, _⟩ := hit; exact Heap.lt_size q
    have nae : e ≠ a := fun z => by have := (hf e (by simp)).1; rw [z, hq] at this; cases this
    have nai : it ≠ a := fun z => by have := (hf it (by simp)).1; rw [z, hq] at this; cases this
    have hlt : i < its.toArray.size := by
      have := (List.getElem?_eq_some_iff.mp hu).1
      simpa using this
    refine wpAny_pyNext_enum_itemD (Draws.tuple (A := X.A.in1) (I.ok.hd hc) it a (Ne.symm nai) its.toArray) he ⟨hit, p⟩ hlt hne (by simp [hne, nae]) fun x' h' tk hx' ho hst' hT hsz hk => ?_
    obtain ⟨hit', _⟩ := hst'
    have ex : x' = u := by
      have : its.toArray[i]? = some x' := hx'
      have h2 : its.toArray[i]? = some u := by simpa using hu
      rw [h2] at this; exact (Option.some.inj this).symm
    subst ex
    refine ⟨_, rfl, wpAny_letOwnedTupleGo_enum (s := { s with heap := h', toks := tk + 1 }) ho fun h'' he' sb => ?_⟩
    have hT2 : h''.get? s.heap.objs.size = some { cls := .type "tuple", data := .seq #[.int i tk, x'] } := (sb.2 _ (Nat.ne_of_gt hel)).trans hT
    have new : ObjOk X.prog X.w (upd H s.heap.objs.size (.tup [.int (i : Nat), x])) h'' s.heap.objs.size (.tup [.int (i : Nat), x]) :=
      ⟨by show 2 ≤ sizeLine; decide, [.int i tk, x'], .cons ⟨_, rfl⟩ (.cons ru .nil), ⟨_, hT2, rfl, _, rfl⟩⟩
    have I1 : Inv X pins σ (upd H s.heap.objs.size (.tup [.int (i : Nat), x])) { s with heap := h'', toks := tk + 1 } :=
      I.turnedNew (ch := [e, it]) (fun b ob hb q => (sb.2 b (fun z => hb (by simp [z]))).trans (hk b ob (fun z => hb (by simp [z])) (fun z => hb (by simp [z])) q)) hf (Nat.le_refl _) new
    refine ⟨.ref s.heap.objs.size, _, I1, rfl, ⟨_, x, rfl, I.hok.fresh (Nat.le_refl _), rfl, fun ys hy => by rw [hq] at hy; cases hy; exact hx⟩, ⟨⟨x', ?_⟩, hit'.at fun o q => (sb.2 it (Ne.symm hne)).trans q, hne⟩, fun b hb => ?_⟩
    · have e1 : ((i + 1 : Nat) : Int) = (i : Int) + 1 := by omega
      rw [e1]; exact he'
    · have hb' : b < s.heap.objs.size := by
        have e' : b = e ∨ b = it := by simpa using hb
        rcases e' with z | z
        · rw [z]; exact hel
        · rw [z]; exact hil
      rw [upd_ne (Nat.ne_of_lt hb')]
      exact (hf b hb).1
  done := by
    intro X hP hw hK hc i pins s σ H E I hf st hg
    subst hP hw hK
    obtain ⟨⟨old, he⟩, hit, hne⟩ := st
    obtain ⟨xs, hq, hx⟩ := hg
    obtain ⟨its, rv, p, hz⟩ := I.tuple (.inl (.inl hq))
    obtain ⟨f0, f1, f2, f3, f4, f5⟩ := hf it (by simp)
    have nai : it ≠ a := fun z => by have := f0; rw [z, hq] at this; cases this
    have hl := rv.length
    have hi : i = its.toArray.size := by rw [List.size_toArray, ← hl, hx]
    subst hi
    exact wpAny_pyNext_enum_endD (Draws.tuple (A := X.A.in1) (I.ok.hd hc) it a (Ne.symm nai) its.toArray) he ⟨hit, p⟩ fun h' eb => ⟨rfl, I.turned (t' := s.toks) (fun b o hb q => eb b o hb q) f0 f1 f3 f4 f5⟩
  self := fun A i s Q E st h => let ⟨⟨_, he⟩, _⟩ := st; wpAny_pyIter_enum he h
def iEnumT (ta : TE) : TI := fun σ H R => ta σ H fun v H1 => ∃ a xs, v = .ref a ∧ H1 a = some (.tup xs) ∧ R (IteT a) H1
theorem pi_enumT {X : Cx} {e : Expr} {ta : TE} {p pos tpos : Pos} {elts : List Expr} {kk : Nat} (hg : Gl X "enumerate") (hm : X.mg "enumerate" = none) (ha : PE X e ta) (hs : starEach [e] X.env = [(false, eval e X.env)] := by rfl) :
    PI X (.Tuple elts kk tpos) (.Call (.Name "enumerate" p) [e] [] pos) (iEnumT ta) := by
  refine ⟨fun pins s σ H R I h => ?_⟩
  refine Call_ (ld_blt I hg hm boot_enumerate (PyProof.Rows.callWith_type1 (thn ((pa_cons ha pa_nil hs).run pos pins s σ H (fun vs H1 => match vs with | [v] => ∃ a xs, v = .ref a ∧ H1 a = some (.tup xs) ∧ R (IteT a) H1 | _ => False) I h) fun us s1 ⟨vs, H1, I1, r1, q1⟩ => ?_) hs rfl))
  cases r1 with
  | nil => exact q1.elim
  | cons r rr =>
    cases rr with
    | cons _ _ => exact q1.elim
    | nil =>
    obtain ⟨a, xs, ex, hq, q⟩ := q1
    subst ex
    cases r
    obtain ⟨its, rv, p', hz⟩ := I1.tuple (.inl (.inl hq))
    refine call_enumerate_tuple (show s1.heap.IsTuple a its.toArray from p') fun h' he hit hsz hk => wpAny_pyIter_enum he ?_
    have I2 : Inv X pins σ H1 { s1 with heap := h' } := I1.kept (t' := s1.toks) hk
    refine ⟨s1.heap.objs.size + 1, [s1.heap.objs.size + 1, s1.heap.objs.size], _, _, H1, rfl, I2, turn_enumT a (s1.heap.objs.size + 1) s1.heap.objs.size, ⟨⟨.none, he⟩, hit, Nat.succ_ne_self _⟩, fun b hb => ?_, q⟩
    have e' : b = s1.heap.objs.size + 1 ∨ b = s1.heap.objs.size := by simpa using hb
    have hle : s1.heap.objs.size ≤ b := by
      rcases e' with z | z
      · rw [z]; exact Nat.le_add_right _ _
      · rw [z]; exact Nat.le_refl _
    exact I1.fpOk hle (I1.hok.fresh hle)
end GT

/-! GtF: enumerate, zip, comprehensions. -/
namespace GT
open PySem PySem.Spec PyProof.Rows L2 RZ
def enumD : Nat → List D → List D
  | _, [] => []
  | n, d :: ds => .tup [.int (n : Int), d] :: enumD (n + 1) ds
theorem enumD_len : ∀ (n : Nat) (ds : List D), (enumD n ds).length = ds.length
  | _, [] => rfl
  | n, d :: ds => by simp [enumD, enumD_len (n + 1) ds]
theorem enumD_get : ∀ (n : Nat) (ds : List D) (i : Nat), (enumD n ds)[i]? = ds[i]?.map fun d => .tup [.int ((n + i : Nat) : Int), d]
  | _, [], i => by simp [enumD]
  | n, d :: ds, 0 => by simp [enumD]
  | n, d :: ds, i + 1 => by
    rw [enumD, List.getElem?_cons_succ, enumD_get (n + 1) ds i, List.getElem?_cons_succ, show n + 1 + i = n + (i + 1) by omega]
def zipD : List D → List D → List D
  | d :: ds, e :: es => .tup [d, e] :: zipD ds es
  | _, _ => []
theorem zipD_len : ∀ (ds es : List D), (zipD ds es).length = min ds.length es.length
  | [], _ => by simp [zipD]
  | _ :: _, [] => by simp [zipD]
  | d :: ds, e :: es => by simp [zipD, zipD_len ds es]
theorem zipD_get : ∀ (ds es : List D) (i : Nat) (d e : D), ds[i]? = some d → es[i]? = some e → (zipD ds es)[i]? = some (.tup [d, e])
  | [], _, i, _, _, h, _ => by simp at h
  | _ :: _, [], i, _, _, _, h => by simp at h
  | d :: ds, e :: es, 0, _, _, h1, h2 => by simp at h1 h2; subst h1 h2; simp [zipD]
  | d :: ds, e :: es, i + 1, a, b, h1, h2 => by
    rw [zipD, List.getElem?_cons_succ]
    exact zipD_get ds es i a b (by simpa using h1) (by simpa using h2)
def mEnT (m : ME) : MI := fun env g => (m env g).bind fun d g1 => match d with
  | .tup ds => .ok (enumD 0 ds) g1
  | _ => .stuck
def mEnL (m : ME) : MI := fun env g => (m env g).bind fun d g1 => match d with
  | .lst ds => .ok (enumD 0 ds) g1
  | _ => .stuck
def mZip (m m2 : ME) : MI := fun env g => (m env g).bind fun d g1 => (m2 env g1).bind fun e g2 => match d, e with
  | .tup ds, .tup es => .ok (zipD ds es) g2
  | .lst ds, .lst es => .ok (zipD ds es) g2
  | _, _ => .stuck
section
variable {X : Cx} {C : Cst} {Wx : WX}
theorem walk_enumT {a : Addr} {xs : List V} : Walk (IteT a) xs.length (fun H => H a = some (.tup xs)) (YPair (fun i => some (.int (i : Nat))) (fun i => xs[i]?)) :=
  ⟨fun i H hi h => ⟨xs, xs[i], h, by simp [hi]⟩, fun H h => ⟨xs, h, rfl⟩, fun i H x H' hi h ⟨T, y, e1, e2, e3, e4⟩ => ⟨T, .int (i : Nat), y, e1, e2, e3, rfl, e4 xs h⟩⟩
theorem walk_zipT {K : PySem.W.Frag} {a b : Addr} {xs ys : List V} : Walk (ItzT K a b) (min xs.length ys.length) (fun H => SqT K H a xs ∧ SqT K H b ys) (YPair (fun i => xs[i]?) (fun i => ys[i]?)) :=
  ⟨fun i H hi h => ⟨xs, ys, xs[i]'(by omega), ys[i]'(by omega), h.1, h.2, by simp, by simp⟩, fun H h => ⟨xs, ys, h.1, h.2, by omega⟩, fun i H x H' hi h ⟨T, u, v, e1, e2, e3, e4, e5⟩ => ⟨T, u, v, e1, e2, e3, e4 xs h.1, e5 ys h.2⟩⟩
/-- pairs are given out -/
theorem itr_pair {r : List Addr} {W : Addr → Prop} {H : Hp} {ds : List D} {n : Nat} {J : It} {Gd : Hp → Prop} {xs ys : Nat → Option V} (hz : n ≤ sizeLine) (hn : ds.length = n) (w : Walk J n Gd (YPair xs ys)) (st : ∀ r' W' H', Kp r r' W W' H H' → Gd H')
    (it : ∀ (i : Nat) x y r' W' H', i < n → Kp r r' W W' H H' → xs i = some x → ys i = some y → ∃ d e, ds[i]? = some (.tup [d, e]) ∧ Rp C r' W' H' d x ∧ Rp C r' W' H' e y) : ItR C r W H ds J := by
  refine ⟨by rw [hn]; exact hz, Gd, _, by rw [hn]; exact w, st, fun i r' W' g' H' x H'' k b hi y => ?_⟩
  obtain ⟨T, u, v, e1, e2, e3, e4, e5⟩ := y
  subst e1 e3
  obtain ⟨d, e, h1, h2, h3⟩ := it i u v r' W' H' (by rw [← hn]; exact hi) k e4 e5
  exact ⟨_, h1, b.upd e2, Step.upd e2, Rp.newT b e2 (by show 2 ≤ sizeLine; decide) (.cons h2 (.cons h3 .nil))⟩
theorem itr_enum {r : List Addr} {W : Addr → Prop} {H : Hp} {ds : List D} {us : List V} {J : It} {Gd : Hp → Prop} (hz : us.length ≤ sizeLine) (q : RpL C r W H ds us) (w : Walk J us.length Gd (YPair (fun i => some (.int (i : Nat))) (fun i => us[i]?))) (st : ∀ r' W' H', Kp r r' W W' H H' → Gd H') : ItR C r W H (enumD 0 ds) J :=
  itr_pair hz (by rw [enumD_len, q.length]) w st fun i x y r' W' H' hi k e1 e2 => by
    cases e1
    obtain ⟨d, h1, h2⟩ := (q.keep k).getV e2
    exact ⟨.int (i : Nat), d, by rw [enumD_get, h1, Nat.zero_add]; rfl, .int _, h2⟩
theorem itr_zip {r : List Addr} {W : Addr → Prop} {H : Hp} {ds es : List D} {us vs : List V} {J : It} {Gd : Hp → Prop} (hz : us.length ≤ sizeLine) (q : RpL C r W H ds us) (q2 : RpL C r W H es vs) (w : Walk J (min us.length vs.length) Gd (YPair (fun i => us[i]?) (fun i => vs[i]?))) (st : ∀ r' W' H', Kp r r' W W' H H' → Gd H') : ItR C r W H (zipD ds es) J :=
  itr_pair (by omega) (by rw [zipD_len, q.length, q2.length]) w st fun i x y r' W' H' hi k e1 e2 => by
    obtain ⟨d, h1, h2⟩ := (q.keep k).getV e1
    obtain ⟨e, h3, h4⟩ := (q2.keep k).getV e2
    exact ⟨d, e, zipD_get _ _ _ _ _ h1 h3, h2, h4⟩
theorem si_enT {e : Expr} {m : ME} {p pos tpos : Pos} {elts : List Expr} {kk : Nat} (hg : Gl X "enumerate") (hm : X.mg "enumerate" = none) (he : PE X e (RE C Wx m)) (hs : starEach [e] X.env = [(false, eval e X.env)] := by rfl) :
    PI X (.Tuple elts kk tpos) (.Call (.Name "enumerate" p) [e] [] pos) (RI C Wx (mEnT m)) := PIm (pi_enumT hg hm he hs) fun σ H Q h => by
  obtain ⟨W, env, oas, g, r, S, P⟩ := h
  refine ⟨W, env, oas, g, r, S, Post.mono (Post.split P) fun v H1 ⟨d, g1, r1, b1, s1, p1, q1⟩ => ?_⟩
  dsimp only at q1
  split at q1
  · cases p1 with
    | tup h hz hr hw q =>
      refine ⟨_, _, rfl, h, Post.here q1 b1 (itr_enum hz q walk_enumT fun r' W' H' k => k.ext _ _ h hr hw (fun _ z => by cases z))⟩
  · exact q1.elim
theorem si_enL {e : Expr} {m : ME} {p pos tpos : Pos} {elts : List Expr} {kk : Nat} (hK : C.K = X.K) (hg : Gl X "enumerate") (hm : X.mg "enumerate" = none) (he : PE X e (RE C Wx m)) (hs : starEach [e] X.env = [(false, eval e X.env)] := by rfl) :
    PI X (.Tuple elts kk tpos) (.Call (.Name "enumerate" p) [e] [] pos) (RI C Wx (mEnL m)) := PIm (pi_enum hg hm (pa_cons he pa_nil hs) hs) fun σ H Q h => by
  obtain ⟨W, env, oas, g, r, S, P⟩ := h
  refine ⟨W, env, oas, g, r, S, Post.mono (Post.split P) fun v H1 ⟨d, g1, r1, b1, s1, p1, q1⟩ => ?_⟩
  rw [← hK]
  dsimp only at q1
  split at q1
  · cases p1 with
    | lst h hz hr hw q =>
      refine ⟨_, _, rfl, .inl (.inl h), Post.here q1 b1 (itr_enum hz q walk_enum fun r' W' H' k => .inl (.inl (k.ext _ _ h hr hw (fun _ z => by cases z))))⟩
  · exact q1.elim
theorem si_zip {e e2 : Expr} {m m2 : ME} {p pos tpos : Pos} {elts : List Expr} {kk : Nat} (hK : C.K = X.K) (hg : Gl X "zip") (hm : X.mg "zip" = none) (he : PE X e (RE C Wx m)) (he2 : PE X e2 (RE C Wx m2)) (hs : starEach [e, e2] X.env = (false, eval e X.env) :: starEach [e2] X.env := by rfl) (hs2 : starEach [e2] X.env = [(false, eval e2 X.env)] := by rfl) (hpl : (backTo pos (starEach [e2] X.env)).any (·.1) = false := by rfl) :
    PI X (.Tuple elts kk tpos) (.Call (.Name "zip" p) [e, e2] [] pos) (RI C Wx (mZip m m2)) := PIm (pi_zipA hg hm (pa_cons he (pa_cons he2 pa_nil hs2) hs) hs hpl) fun σ H Q h => by
  obtain ⟨W, env, oas, g, r, S, P⟩ := h
  refine ⟨W, env, oas, g, r, S, Post.mono (Post.split P) fun v H1 ⟨d, g1, r1, b1, s1, p1, q1⟩ => ⟨W, env, oas, g1, r1, S.step s1 b1, Post.mono (Post.split q1) fun w H2 ⟨e, g2, r2, b2, s2, p2, q2⟩ => ?_⟩⟩
  have p1' := p1.step s2
  rw [← hK]
  dsimp only at q2
  split at q2
  · cases p1' with
    | tup h hz hr hw q =>
      cases p2 with
      | tup h' hz' hr' hw' q' =>
        refine ⟨_, _, _, _, rfl, .inr ⟨.inl (.inl h), .inl (.inl h'), Post.here q2 b2 (itr_zip hz q q' walk_zipT fun r' W' H' k => ⟨.inl (.inl (k.ext _ _ h hr hw (fun _ z => by cases z))), .inl (.inl (k.ext _ _ h' hr' hw' (fun _ z => by cases z)))⟩)⟩⟩
  · cases p1' with
    | lst h hz hr hw q =>
      cases p2 with
      | lst h' hz' hr' hw' q' =>
        refine ⟨_, _, _, _, rfl, .inl ⟨.inl (.inl h), .inl (.inl h'), Post.here q2 b2 (itr_zip hz q q' (walk_zip rfl) fun r' W' H' k => ⟨.inl (.inl (k.ext _ _ h hr hw (fun _ z => by cases z))), .inl (.inl (k.ext _ _ h' hr' hw' (fun _ z => by cases z)))⟩)⟩⟩
  · exact q2.elim

/-! ### a new object of one's own -/
def Ct (C : Cst) (r : List Addr) (W : Addr → Prop) (H : Hp) (ds : List D) (a : Addr) : Prop := ∃ xs, H a = some (.lst xs) ∧ xs.length ≤ sizeLine ∧ RpL C r W H ds xs
/-- a new list at a, that nothing else knows -/
def PostN (C : Cst) (Wx : WX) (W : Addr → Prop) (r : List Addr) (σ : L2.St) (H : Hp) {α : Type} (Cn : List Addr → (Addr → Prop) → Hp → α → Addr → Prop) (Q : VK) : R α → Prop
  | .ok ds g' => ∀ a H' r', Bs C (fun b => b = a ∨ W b) g' r' H' → Step r r' H H' → H a = none → ¬ W a → Cn r' (fun b => b = a ∨ W b) H' ds a → Q (.ref a) H'
  | .exc c fs g' => ∀ cl dx H' r', Bs C W g' r' H' → Step r r' H H' → ExR C r' W H' c fs cl dx → Wx (.ref cl) dx σ H'
  | .stuck => False
def RN (C : Cst) (Wx : WX) (m : Ev → G → R (List D)) : TE := fun σ H Q => ∃ W env oas g r, Sm C W env oas g r σ H ∧ PostN C Wx W r σ H (Ct C) Q (m env g)
/-- as a value -/
def mNew (m : Ev → G → R (List D)) : ME := fun env g => (m env g).bind fun ds g1 => .ok (.lst ds) g1
theorem re_new {m : Ev → G → R (List D)} {σ : L2.St} {H : Hp} {Q : VK} (h : RE C Wx (mNew m) σ H Q) : RN C Wx m σ H Q := by
  obtain ⟨W, env, oas, g, r, S, P⟩ := h
  refine ⟨W, env, oas, g, r, S, ?_⟩
  unfold mNew at P
  revert P
  cases m env g with
  | ok ds g1 =>
    intro P a H' r' b s ha hw ⟨xs, h1, h2, h3⟩
    have hr : a ∉ r' := fun z => b.dis a z (.inl rfl)
    exact P _ _ r' (b.anti fun _ q => .inr q) s (.lst h1 h2 hr hw (h3.anti fun _ q => .inr q))
  | exc c fs g1 => exact fun P => P
  | stuck => exact fun P => P

theorem Step.newer {r r' : List Addr} {H H' : Hp} (s : Step r r' H H') {p : Addr} {o : HO} (hp : H p = none) : Step r r' H (L2.upd H' p o) :=
  ⟨s.pre, s.fresh, fun a u e hr no => by rw [upd_ne (ne_of_none e hp)]; exact s.ext a u e hr no, fun a e => s.dom a (upd_dom a e)⟩
/-! ### comprehensions -/
def R.nox {α : Type} : R α → R α
  | .ok a g => .ok a g
  | _ => .stuck
def wipeE (env : Ev) : List Nat → Ev
  | [] => env
  | v :: vs => (wipeE env vs).set v .no
def compL (bind : Bnd) (mt : MT) (me : ME) (env : Ev) : List D → G → R (List D)
  | [], g => .ok [] g
  | d :: ds, g => match bind d env with
    | none => .stuck
    | some env1 => (mt env1 g).nox.bind fun b g1 => if b then (me env1 g1).nox.bind fun y g2 => (compL bind mt me env ds g2).bind fun ys g3 => .ok (y :: ys) g3 else compL bind mt me env ds g1
def mComp (vs : List Nat) (mi : MI) (bind : Bnd) (mt : MT) (me : ME) : Ev → G → R (List D) := fun env g => (mi env g).bind fun ds g1 => compL bind mt me (wipeE env vs) ds g1
def mYes : MT := fun _ g => .ok true g
abbrev W0 : WX := fun _ _ _ _ => False
theorem Sm.wipe {W : Addr → Prop} {env : Ev} {oas : List (Option Addr)} {g : G} {r : List Addr} {σ : L2.St} {H : Hp} (m : Sm C W env oas g r σ H) : ∀ vs : List Nat, ∃ oas', Sm C W (wipeE env vs) oas' g r (wipe σ vs) H ∧ ∀ a, some a ∈ oas' → some a ∈ oas
  | [] => ⟨oas, m, fun _ h => h⟩
  | v :: vs => by
    obtain ⟨o, h1, h2⟩ := m.wipe vs
    exact ⟨o.set v none, h1.setNo v none, fun a h => h2 a (mem_set_none h)⟩
/-- what may be written grows by a new place -/
theorem Sm.more {W : Addr → Prop} {env : Ev} {oas : List (Option Addr)} {g : G} {r : List Addr} {σ : L2.St} {H : Hp} (m : Sm C W env oas g r σ H) {p : Addr} {o : HO} (hp : H p = none) (nt : ¬ Nw o) : Sm C (fun a => a = p ∨ W a) env oas g r σ (upd H p o) :=
  ⟨m.bs.more hp nt, m.sl.keep (Kp.more hp) fun a ha => by
      rw [upd_ne (fun q => m.bs.wtr a (m.own a ha) (by rw [q]; exact hp))], fun a h => .inr (m.own a h), m.ownd⟩
/-- .. and is written -/
theorem Sm.write {W : Addr → Prop} {env : Ev} {oas : List (Option Addr)} {g : G} {r : List Addr} {σ : L2.St} {H : Hp} (m : Sm C W env oas g r σ H) {p : Addr} {xs : List V} {o : HO} (hp : W p) (hl : H p = some (.lst xs)) (ho : some p ∉ oas) (nt : ¬ Nw o) : Sm C W env oas g r σ (upd H p o) :=
  ⟨m.bs.write hp (fun ps z => by rw [hl] at z; cases z) nt (fun q z => by rw [hl] at z; unfold LamX.CodeO at z; cases z), m.sl.keep (Kp.write hp) fun a ha => by
      rw [upd_ne (fun q => ho (by rw [← q]; exact ha))], m.own, m.ownd⟩
theorem Post.nox {Wx2 : WX} {W : Addr → Prop} {r : List Addr} {σ σ' : L2.St} {H : Hp} {α β : Type} {Rl : List Addr → Hp → α → β → Prop} {Q : β → Hp → Prop} {m : R α} (h : Post C Wx W r σ H Rl Q m.nox) : Post C Wx2 W r σ' H Rl Q m := by
  cases m with
  | ok d g => exact h
  | exc c fs g => exact h.elim
  | stuck => exact h
/-- the comprehension's reading, from its parts -/
theorem re_comp {vs is : List Nat} {mi : MI} {bind : Bnd} {mt : MT} {me : ME} {tg : TG} (hb : BindS C is tg bind) (hi : ∀ i ∈ is, i ∈ vs) {σ : L2.St} {H : Hp} {Q : VK} (h : RN C Wx (mComp vs mi bind mt me) σ H Q) : tLc (RIq C Wx mi) tg (RT C W0 mt) (RE C W0 me) vs σ H Q := by
  obtain ⟨W, env, oas, g, r, S, P⟩ := h
  refine ⟨W, env, oas, g, r, S, ?_⟩
  unfold mComp at P
  revert P
  cases hmi : mi env g with
  | exc c fs g1 => exact fun P => P
  | stuck => exact fun P => P
  | ok ds g1 =>
    intro P J H1 r1 b1 s1 ⟨hz, Gd, Y, w, st, yl⟩ Dn hD
    have S1 := S.step s1 b1
    have own : ∀ {a : Addr} {r2 r3 : List Addr} {W2 : Addr → Prop} {g2 : G} {H2 H3 : Hp}, some a ∈ oas → H2 a = H1 a → Bs C W2 g2 r2 H2 → W2 a → Step r2 r3 H2 H3 → H3 a = H1 a := fun {a r2 r3 W2 g2 H2 H3} ha e b w st => by
      obtain ⟨o, h1, h2, _⟩ := S1.sl.tr ha
      rw [h1] at e ⊢
      exact st.ext a o e (fun z => b.dis a z w) h2
    -- the new list at Dn
    have hDw : ¬ W Dn := b1.w0 hD
    have hD0 : H Dn = none := s1.dom _ hD
    have P : PostN C Wx W r σ H (Ct C) Q (compL bind mt me (wipeE env vs) ds g1) := P
    obtain ⟨oas1, Sw, ho1⟩ := (S1.more (p := Dn) (o := .lst []) hD (fun z => nomatch z)).wipe vs
    have nD : some Dn ∉ oas1 := fun z => b1.wtr Dn (S1.own Dn (ho1 _ z)) hD
    -- what holds between two turns
    refine lc_it w (σ := σ) (vs := vs) (fun i H' => ∃ r' g' ys acc, Sm C (fun a => a = Dn ∨ W a) (wipeE env vs) oas1 g' r' (L2.wipe σ vs) H' ∧ Kp r1 r' W (fun a => a = Dn ∨ W a) H1 H' ∧ Step r r' H H' ∧ (∀ a, some a ∈ oas → H' a = H1 a) ∧ H' Dn = some (.lst acc) ∧ acc.length ≤ i ∧ RpL C r' (fun a => a = Dn ∨ W a) H' ys acc ∧
        PostN C Wx W r σ H (Ct C) Q ((compL bind mt me (wipeE env vs) (ds.drop i) g').bind fun zs g3 => .ok (ys ++ zs) g3)) ?_ ?_ ?_ ?_
    · refine ⟨r1, g1, [], [], Sw, Kp.more hD, s1.trans (Step.upd hD), fun a ha => upd_ne (fun z => S1.bs.wtr a (S1.own a ha) (by rw [z]; exact hD)), upd_same, Nat.zero_le _, .nil, ?_⟩
      rw [List.drop_zero]
      revert P
      cases compL bind mt me (wipeE env vs) ds g1 <;> exact fun P => P
    · rintro i H' _ ⟨r', g', ys, acc, _, k, _, ow, _⟩
      exact st _ _ _ k ow
    · rintro i x H' H'' hi' ⟨r', g', ys, acc, Sm1, k, sr, ow, ha, hla, qa, PP⟩ y
      obtain ⟨d, hd, b2, s2, q2⟩ := yl i r' _ g' H' x H'' k ow Sm1.bs hi' y
      have ow2 : ∀ a, some a ∈ oas → H'' a = H1 a := fun a h => own h (ow a h) Sm1.bs (.inr (S1.own a h)) s2
      have S2 := Sm1.step s2 b2
      have ha2 : H'' Dn = some (.lst acc) := s2.ext Dn _ ha (fun z => Sm1.bs.dis Dn z (.inl rfl)) (fun _ z => by cases z)
      have edrop : ds.drop i = d :: ds.drop (i + 1) := by
        obtain ⟨hlt, e⟩ := List.getElem?_eq_some_iff.mp hd
        rw [List.drop_eq_getElem_cons hlt, e]
      rw [edrop, compL] at PP
      cases hbd : bind d (wipeE env vs) with
      | none => rw [hbd] at PP; exact PP.elim
      | some env1 =>
        rw [hbd] at PP
        refine hb _ _ _ _ _ _ _ d x env1 _ S2 q2 hbd fun σ' oas' S3 ho3 hw3 => ⟨?_, ?_⟩
        · rw [hw3 vs hi, wipe_wipe]
        · have nD3 : some Dn ∉ oas' := fun z => nD (ho3 _ z)
          refine ⟨_, env1, oas', g', r', S3, ?_⟩
          dsimp only at PP
          revert PP
          cases hmt : mt env1 g' with
          | exc c fs g4 => exact fun PP => PP.elim
          | stuck => exact fun PP => PP.elim
          | ok b g4 =>
            intro PP c H4 r4 b4 s4 ec
            subst ec
            have S4 := S3.step s4 b4
            have k4 : Kp r1 r4 W (fun a => a = Dn ∨ W a) H1 H4 := (k.trans s2.kp).trans s4.kp
            have ha4 : H4 Dn = some (.lst acc) := s4.ext Dn _ ha2 (fun z => S3.bs.dis Dn z (.inl rfl)) (fun _ z => by cases z)
            have sr4 : Step r r4 H H4 := (sr.trans s2).trans s4
            have ow4 : ∀ a, some a ∈ oas → H4 a = H1 a := fun a h => own h (ow2 a h) S3.bs (.inr (S1.own a h)) s4
            cases c with
            | false =>
              refine iteF ⟨r4, g4, ys, acc, (Sm1.step s2 b2).step s4 b4, k4, sr4, ow4, ha4, by omega, (qa.step s2).step s4, ?_⟩
              exact PP
            | true =>
              refine iteT ⟨_, env1, oas', g4, r4, S4, ?_⟩
              simp only [R.nox, R.bind, if_true] at PP
              revert PP
              cases hme : me env1 g4 with
              | exc c fs g5 => exact fun PP => PP.elim
              | stuck => exact fun PP => PP.elim
              | ok y g5 =>
                intro PP v H5 r5 b5 s5 q5
                have ha5 : H5 Dn = some (.lst acc) := s5.ext Dn _ ha4 (fun z => S4.bs.dis Dn z (.inl rfl)) (fun _ z => by cases z)
                refine ⟨acc, ha5, by omega, r5, g5, ys ++ [y], acc ++ [v], ?_, ?_, ?_, ?_, upd_same, by simp; omega, ?_, ?_⟩
                · exact (((Sm1.step s2 b2).step s4 b4).step s5 b5).write (.inl rfl) ha5 nD (fun z => nomatch z)
                · exact (k4.trans s5.kp).trans (Kp.write (.inl rfl))
                · exact (sr4.trans s5).newer hD0
                · exact fun a h => by
                    rw [upd_ne (fun z => S1.bs.wtr a (S1.own a h) (by rw [z]; exact hD))]
                    exact own h (ow4 a h) S4.bs (.inr (S1.own a h)) s5
                · exact ((((qa.step s2).step s4).step s5).append (.cons q5 .nil)).keep (Kp.write (.inl rfl))
                · dsimp only at PP
                  revert PP
                  cases compL bind mt me (wipeE env vs) (ds.drop (i + 1)) g5 with
                  | ok zs g6 =>
                    intro PP
                    simp only [R.bind] at PP ⊢
                    rw [List.append_assoc]
                    exact PP
                  | exc c fs g6 => exact fun PP => PP
                  | stuck => exact fun PP => PP
    · rintro H' ⟨r', g', ys, acc, Sm1, k, sr, _, ha, hla, qa, PP⟩
      rw [List.drop_length] at PP
      have PP : PostN C Wx W r σ H (Ct C) Q (.ok (ys ++ []) g') := PP
      rw [List.append_nil] at PP
      exact PP Dn H' r' Sm1.bs sr hD0 hDw ⟨acc, ha, by omega, qa⟩

theorem pts_nilS : PTs X [] (RT C W0 mYes) := ⟨fun pins s σ H Q I h => pts_nil.run pins s σ H Q I (by
  obtain ⟨W, env, oas, g, r, S, P⟩ := h
  exact Post.here (d := true) (g := g) P S.bs rfl)⟩
theorem pts_oneS {c : Expr} {mt : MT} (h : PT X c (RT C W0 mt)) : PTs X [c] (RT C W0 mt) := pts_one h
/-- [elt for tg in iter if ..] -/
theorem sn_comp {elt tg iter : Expr} {ifs : List Expr} {scope : Scope} {own : List (Str × Nat)} {is : List Nat} {pos : Pos} {mi : MI} {bind : Bnd} {mt : MT} {me : ME} {tgt : TG} (hc : X.calm = true) (hN : X.N.Nodup) (hi : PI X tg iter (RIq C Wx mi)) (ok : BlkOk X.N X.env.scope scope own) (hb : BindS C is tgt bind) (his : ∀ i ∈ is, i ∈ own.map (·.2))
    (hg : ∀ (s : Shared) (H : Hp) (C' : Addr) (cl : List (Str × Addr)) (fp : List Addr), PG (X.blk s H scope (compEnvC scope cl C' X.env) fp) tg tgt) (ht : ∀ (s : Shared) (H : Hp) (C' : Addr) (cl : List (Str × Addr)) (fp : List Addr), PTs (X.blk s H scope (compEnvC scope cl C' X.env) fp) ifs (RT C W0 mt))
    (he : ∀ (s : Shared) (H : Hp) (C' : Addr) (cl : List (Str × Addr)) (fp : List Addr), PE (X.blk s H scope (compEnvC scope cl C' X.env) fp) elt (RE C W0 me)) (hs : ∀ x, foldedSetIterable iter X.env x = pure x := by intro _; rfl) :
    PE X (.ListComp elt [⟨tg, iter, ifs, 0⟩] scope pos) (RN C Wx (mComp (own.map (·.2)) mi bind mt me)) :=
  PEm (pe_lc hc hN hi ok hg ht he hs) fun _ _ _ h => re_comp hb his h
theorem se_new {e : Expr} {m : Ev → G → R (List D)} (h : PE X e (RN C Wx m)) : PE X e (RE C Wx (mNew m)) := PEm h fun _ _ _ h => re_new h
/-- [a, b, ..] as a new list -/
def mItems (ms : MA) : Ev → G → R (List D) := fun env g => (ms env g).bind fun ds g1 => if ds.length ≤ 1000000 then .ok ds g1 else .stuck
theorem Ct.new {W : Addr → Prop} {g : G} {r : List Addr} {H : Hp} {p : Addr} {xs : List V} {ds : List D} (hp : H p = none) (hz : xs.length ≤ sizeLine) (q : RpL C r W H ds xs) : Ct C r (fun b => b = p ∨ W b) (L2.upd H p (.lst xs)) ds p := ⟨xs, upd_same, hz, q.keep (Kp.more hp)⟩
theorem sn_lst {es : List Expr} {pos : Pos} {ms : MA} (h : PA X es (RA C Wx ms)) : PE X (.List es pos) (RN C Wx (mItems ms)) := PEm (pe_lst h) fun σ H Q h => by
  obtain ⟨W, env, oas, g, r, S, P⟩ := h
  refine ⟨W, env, oas, g, r, S, ?_⟩
  unfold mItems at P
  revert P
  cases ms env g with
  | exc c fs g1 => exact fun P => P
  | stuck => exact fun P => P
  | ok ds g1 =>
    intro P xs H1 r1 b1 s1 p1
    simp only [R.bind] at P
    split at P
    · rename_i hl
      have hz : xs.length ≤ sizeLine := by rw [← p1.length]; exact mil hl
      exact ⟨hz, fun p hp => P p _ r1 (b1.more hp (fun z => nomatch z)) (s1.trans (Step.upd hp)) (s1.dom _ hp) (b1.w0 hp) (Ct.new (g := g1) hp hz p1)⟩
    · exact P.elim
/-- list(x) as a new list -/
def mListN (m : ME) : Ev → G → R (List D) := fun env g => (m env g).bind fun d g1 => match fList [d] with
  | some (.lst ds) => .ok ds g1
  | _ => .stuck
theorem sn_list {e : Expr} {p pos : Pos} {m : ME} (hK : C.K = X.K) (hc : X.calm = true) (hg : Gl X "list") (hm : X.mg "list" = none) (he : PE X e (RP C Wx m)) (hs : starEach [e] X.env = (false, eval e X.env) :: starEach [] X.env := by rfl) : PE X (.Call (.Name "list" p) [e] [] pos) (RN C Wx (mListN m)) :=
  PEm (pe_callTy (call_listA hc) hg hm boot_list (pa_cons he pa_nil hs) (by decide) (by decide) hs (by rfl)) fun σ H Q h => by
    obtain ⟨W, env, oas, g, r, S, P⟩ := h
    refine ⟨W, env, oas, g, r, S, ?_⟩
    unfold mListN at P
    revert P
    cases m env g with
    | exc c fs g1 => exact fun P => P
    | stuck => exact fun P => P
    | ok d g1 =>
      intro P v H1 r1 b1 s1 p1
      simp only [R.bind] at P
      split at P
      · rename_i ds e1
        rw [← hK]
        have new : ∀ {xs : List V} {l : Addr}, xs.length ≤ sizeLine → RpL C r1 W H1 ds xs → H1 l = none → Q (.ref l) (L2.upd H1 l (.lst xs)) := fun {xs l} hz q hl =>
          P l _ r1 (b1.more hl (fun z => nomatch z)) (s1.trans (Step.upd hl)) (s1.dom _ hl) (b1.w0 hl) (Ct.new (g := g1) hl hz q)
        unfold fList at e1
        split at e1
        · rename_i heq
          cases heq
          cases e1
          obtain ⟨a, us, rfl, h1, hz, q1⟩ := p1.isLst
          exact .inl ⟨a, us, rfl, .inl (.inl (.inl h1)), fun l hl => new hz q1 hl⟩
        · rename_i heq
          cases heq
          cases e1
          obtain ⟨a, us, rfl, h1, hz, q1⟩ := p1.isTup
          exact .inl ⟨a, us, rfl, .inr (.inl (.inl h1)), fun l hl => new hz q1 hl⟩
        · rename_i heq
          cases heq
          split at e1
          · rename_i hk
            cases e1
            obtain ⟨a, us, rfl, h1, h2, hz, _, q1⟩ := p1.isDT
            have hk2 : ∀ kv ∈ us, kv.1.length ≤ sizeLine := fun kv hkv => by
              have hm : kv.1 ∈ us.map (·.1) := List.mem_map.mpr ⟨kv, hkv, rfl⟩
              rw [← h2] at hm
              obtain ⟨kv', h3, h4⟩ := List.mem_map.mp hm
              have := List.all_eq_true.mp hk kv' h3
              rw [← h4]
              exact mil (of_decide_eq_true this)
            refine .inr (.inr ⟨a, us, rfl, h1, fun l bs hl hb => new (by rw [List.length_map, ← Paired.length hb]; exact hz) ?_ hl⟩)
            rw [map_fst (fun k => D.tup (k.map kD)) h2]
            exact keysT_rp b1 hz hk2 hb
          · cases e1
        · cases e1
      · exact P.elim
end
end GT

/-! GtG: statements, loops, defs. -/
namespace GT
open PySem PySem.Spec PyProof.Rows L2 RZ

inductive Fl where
  | nx | rt (d : D) | bk | ct
abbrev MS := Ev → G → R (Fl × Ev)
def Wf (oas : List (Option Addr)) (Wo : Addr → Prop) : Addr → Prop := fun a => some a ∈ oas ∨ Wo a
/-- a def's run: entered at H0, r0; Wo: what its callers may write -/
structure Ss (C : Cst) (H0 : Hp) (r0 : List Addr) (Wo : Addr → Prop) (env : Ev) (oas : List (Option Addr)) (g : G) (r : List Addr) (σ : L2.St) (H : Hp) : Prop where
  sm : Sm C (Wf oas Wo) env oas g r σ H
  st : Step r0 r H0 H
  fr : ∀ a, some a ∈ oas → H0 a = none
  wo : ∀ a, Wo a → H0 a ≠ none
def PoS (C : Cst) (Wx : WX) (H0 : Hp) (r0 : List Addr) (Wo : Addr → Prop) (r : List Addr) (oas : List (Option Addr)) (H : Hp) (D : Ends) : R (Fl × Ev) → Prop
  | .ok (.nx, env') g' => ∀ σ' H' oas' r', Ss C H0 r0 Wo env' oas' g' r' σ' H' → Kp r r' (Wf oas Wo) (Wf oas' Wo) H H' → D.nx σ' H'
  | .ok (.rt d, _) g' => ∀ v H' r', Bs C Wo g' r' H' → Step r0 r' H0 H' → Rp C r' Wo H' d v → D.rt v H'
  | .ok (.bk, env') g' => ∀ σ' H' oas' r', Ss C H0 r0 Wo env' oas' g' r' σ' H' → Kp r r' (Wf oas Wo) (Wf oas' Wo) H H' → D.bk σ' H'
  | .ok (.ct, env') g' => ∀ σ' H' oas' r', Ss C H0 r0 Wo env' oas' g' r' σ' H' → Kp r r' (Wf oas Wo) (Wf oas' Wo) H H' → D.ct σ' H'
  | .exc c fs g' => ∀ cl dx σ' H' r', Bs C Wo g' r' H' → Step r0 r' H0 H' → ExR C r' Wo H' c fs cl dx → Wx (.ref cl) dx σ' H'
  | .stuck => False
def RS (C : Cst) (Wx : WX) (m : MS) : TS := fun D σ H => ∃ H0 r0 Wo env oas g r, Ss C H0 r0 Wo env oas g r σ H ∧ PoS C Wx H0 r0 Wo r oas H D (m env g)
section
variable {C : Cst} {Wx : WX} {H0 H H1 : Hp} {r0 r r1 : List Addr} {Wo : Addr → Prop} {oas oas1 : List (Option Addr)} {En : Ends} {env : Ev} {g g1 : G} {σ : L2.St}
theorem PoS.after {m : R (Fl × Ev)} (h : PoS C Wx H0 r0 Wo r oas H En m) (k : Kp r r1 (Wf oas Wo) (Wf oas1 Wo) H H1) : PoS C Wx H0 r0 Wo r1 oas1 H1 En m := by
  cases m with
  | stuck => exact h
  | exc c fs g => exact h
  | ok p g =>
    obtain ⟨f, e⟩ := p
    cases f with
    | nx => exact fun σ' H' oas' r' s k' => h σ' H' oas' r' s (k.trans k')
    | rt d => exact h
    | bk => exact fun σ' H' oas' r' s k' => h σ' H' oas' r' s (k.trans k')
    | ct => exact fun σ' H' oas' r' s k' => h σ' H' oas' r' s (k.trans k')
theorem Ss.step (S : Ss C H0 r0 Wo env oas g r σ H) (s : Step r r1 H H1) (b : Bs C (Wf oas Wo) g1 r1 H1) : Ss C H0 r0 Wo env oas g1 r1 σ H1 :=
  ⟨S.sm.step s b, S.st.trans s, S.fr, S.wo⟩
theorem ExR.anti {W W' : Addr → Prop} {c : Str} {fs : List (Str × D)} {cl : Addr} {dx : Option Addr} (h : ExR C r W H c fs cl dx) (hw : ∀ a, W' a → W a) : ExR C r W' H c fs cl dx := by
  obtain ⟨h1, h | ⟨d, h0, h2, h3, xs, h4, h5, h6⟩⟩ := h
  · exact ⟨h1, .inl h⟩
  · exact ⟨h1, .inr ⟨d, h0, h2, fun z => h3 (hw _ z), xs, h4, h5, h6.anti hw⟩⟩
theorem wo_wf : ∀ a, Wo a → Wf oas Wo a := fun _ h => .inr h
/-- behind an expression -/
def ThenS (C : Cst) (Wx : WX) (H0 : Hp) (r0 : List Addr) (Wo : Addr → Prop) (r : List Addr) (oas : List (Option Addr)) (H : Hp) (D : Ends) {α β : Type} (Rl : List Addr → Hp → α → β → Prop) (f : α → G → R (Fl × Ev)) (v : β) (H1 : Hp) : Prop :=
  ∃ d g1 r1, Bs C (Wf oas Wo) g1 r1 H1 ∧ Step r r1 H H1 ∧ Rl r1 H1 d v ∧ PoS C Wx H0 r0 Wo r1 oas H1 D (f d g1)
theorem PoS.split {α β : Type} {Rl : List Addr → Hp → α → β → Prop} {m : R α} {f : α → G → R (Fl × Ev)} (S : Step r0 r H0 H) (h : PoS C Wx H0 r0 Wo r oas H En (m.bind f)) : Post C Wx (Wf oas Wo) r σ H Rl (ThenS C Wx H0 r0 Wo r oas H En Rl f) m := by
  cases m with
  | stuck => exact h
  | exc c fs g => exact fun cl dx H' r' b s q => h cl dx σ H' r' (b.anti wo_wf) (S.trans s) (q.anti wo_wf)
  | ok d g => exact fun v H' r' b s q => ⟨d, g, r', b, s, q, PoS.after (m := f d g) h s.kp⟩
theorem Ss.ret (S : Ss C H0 r0 Wo env oas g r σ H) {d : D} {v : V} {e : Ev} (P : PoS C Wx H0 r0 Wo r oas H En (.ok (.rt d, e) g)) (q : Rp C r (Wf oas Wo) H d v) : En.rt v H := P v H r (S.sm.bs.anti wo_wf) S.st (q.anti wo_wf)
theorem wf_sub (h : ∀ a, some a ∈ oas1 → some a ∈ oas) : ∀ a, Wf oas1 Wo a → Wf oas Wo a := fun a q => q.elim (fun q => .inl (h a q)) .inr
theorem kp_sub (h : ∀ a, some a ∈ oas1 → some a ∈ oas) : Kp r r (Wf oas Wo) (Wf oas1 Wo) H H := ⟨fun _ _ h => h, fun a q => q.elim .inl fun q => .inr (.inl (wf_sub h a q)), fun _ _ h _ _ _ => h, fun _ h => h⟩
theorem Ss.less {env' : Ev} {σ' : L2.St} (S : Ss C H0 r0 Wo env oas g r σ H) (m : Sm C (Wf oas Wo) env' oas1 g r σ' H) (h : ∀ a, some a ∈ oas1 → some a ∈ oas) : Ss C H0 r0 Wo env' oas1 g r σ' H :=
  ⟨m.anti (wf_sub h) fun _ q => .inl q, S.st, fun a q => S.fr a (h a q), S.wo⟩
end

section
variable {X : Cx} {C : Cst} {Wx : WX}
/-! ### blocks -/
def mSeq (m1 m2 : MS) : MS := fun env g => (m1 env g).bind fun p g1 => match p with
  | (.nx, env1) => m2 env1 g1
  | q => .ok q g1
def mSkip : MS := fun env g => .ok (.nx, env) g
theorem PSsm {e : List Stmt} {t t' : TS} (h : PSs X e t) (k : ∀ D σ H, t' D σ H → t D σ H) : PSs X e t' := ⟨fun pins s σ H D I q => h.run pins s σ H D I (k D σ H q)⟩
theorem PSm' {e : Stmt} {t t' : TS} (h : PS X e t) (k : ∀ D σ H, t' D σ H → t D σ H) : PS X e t' := ⟨fun pins s σ H D I q => h.run pins s σ H D I (k D σ H q)⟩
theorem rs_seq {m1 m2 : MS} {D : Ends} {σ : L2.St} {H : Hp} (h : RS C Wx (mSeq m1 m2) D σ H) : tSeq (RS C Wx m1) (RS C Wx m2) D σ H := by
  obtain ⟨H0, r0, Wo, env, oas, g, r, S, P⟩ := h
  refine ⟨H0, r0, Wo, env, oas, g, r, S, ?_⟩
  unfold mSeq at P
  revert P
  cases m1 env g with
  | stuck => exact fun P => P
  | exc c fs g1 => exact fun P => P
  | ok p g1 =>
    obtain ⟨f, e⟩ := p
    cases f with
    | nx => exact fun P σ' H' oas' r' s k => ⟨H0, r0, Wo, e, oas', g1, r', s, PoS.after (m := m2 e g1) P k⟩
    | rt d => exact fun P => P
    | bk => exact fun P => P
    | ct => exact fun P => P
theorem ss_cons {st : Stmt} {rest : List Stmt} {m1 m2 : MS} (h1 : PS X st (RS C Wx m1)) (h2 : PSs X rest (RS C Wx m2)) : PSs X (st :: rest) (RS C Wx (mSeq m1 m2)) := PSsm (pss_cons h1 h2) fun _ _ _ h => rs_seq h
theorem ss_one {st : Stmt} {m1 : MS} (h1 : PS X st (RS C Wx m1)) : PSs X [st] (RS C Wx m1) := pss_one h1
theorem ss_nil : PSs X [] (RS C Wx mSkip) := PSsm pss_nil fun D σ H h => by
  obtain ⟨H0, r0, Wo, env, oas, g, r, S, P⟩ := h
  exact P σ H oas r S (Kp.refl _ _ _)
/-- not reached -/
def mStop : MS := fun _ _ => .stuck
theorem ss_never {st : Stmt} : PS X st (RS C Wx mStop) := PSm' ps_never fun D σ H h => by
  obtain ⟨H0, r0, Wo, env, oas, g, r, S, P⟩ := h
  exact P
theorem sss_never {st : List Stmt} : PSs X st (RS C Wx mStop) := PSsm pss_never fun D σ H h => by
  obtain ⟨H0, r0, Wo, env, oas, g, r, S, P⟩ := h
  exact P
/-! ### small statements -/
def mRet (m : ME) : MS := fun env g => (m env g).bind fun d g1 => .ok (.rt d, env) g1
def mExp (m : ME) : MS := fun env g => (m env g).bind fun _ g1 => .ok (.nx, env) g1
def mIfS (c : MT) (m1 m2 : MS) : MS := fun env g => (c env g).bind fun b g1 => if b then m1 env g1 else m2 env g1
def mAsg (m : ME) (bind : Bnd) : MS := fun env g => (m env g).bind fun d g1 => match bind d env with
  | some env1 => .ok (.nx, env1) g1
  | none => .stuck
theorem ss_ret {e : Expr} {pos : Pos} {m : ME} (he : PE X e (RE C Wx m)) : PS X (.Return (some e) pos) (RS C Wx (mRet m)) := PSm' (ps_ret he) fun D σ H h => by
  obtain ⟨H0, r0, Wo, env, oas, g, r, S, P⟩ := h
  refine ⟨Wf oas Wo, env, oas, g, r, S.sm, Post.mono (PoS.split S.st P) fun v H1 ⟨d, g1, r1, b1, s1, p1, q1⟩ => ?_⟩
  exact (S.step s1 b1).ret q1 p1
def mRetN : MS := fun env g => .ok (.rt .non, env) g
theorem ss_retN {pos : Pos} : PS X (.Return none pos) (RS C Wx mRetN) := PSm' ps_retN fun D σ H h => by
  obtain ⟨H0, r0, Wo, env, oas, g, r, S, P⟩ := h
  exact S.ret P .non
theorem ss_expr {e : Expr} {pos : Pos} {m : ME} (he : PE X e (RE C Wx m)) (hs : swapsWith e none pos.line X.env = pure false := by rfl) : PS X (.Expr e pos) (RS C Wx (mExp m)) := PSm' (ps_expr he hs) fun D σ H h => by
  obtain ⟨H0, r0, Wo, env, oas, g, r, S, P⟩ := h
  refine ⟨Wf oas Wo, env, oas, g, r, S.sm, Post.mono (PoS.split S.st P) fun v H1 ⟨d, g1, r1, b1, s1, p1, q1⟩ => ?_⟩
  exact q1 σ H1 oas r1 (S.step s1 b1) (Kp.refl _ _ _)
theorem ss_if {c : Expr} {a b : List Stmt} {pos : Pos} {mc : MT} {m1 m2 : MS} (hc : PT X c (RT C Wx mc)) (ha : PSs X a (RS C Wx m1)) (hb : PSs X b (RS C Wx m2)) : PS X (.If c a b pos) (RS C Wx (mIfS mc m1 m2)) := PSm' (ps_if hc ha hb) fun D σ H h => by
  obtain ⟨H0, r0, Wo, env, oas, g, r, S, P⟩ := h
  refine ⟨Wf oas Wo, env, oas, g, r, S.sm, Post.mono (PoS.split S.st P) fun c H1 ⟨d, g1, r1, b1, s1, p1, q1⟩ => ?_⟩
  subst p1
  cases c with
  | true => exact iteT ⟨H0, r0, Wo, env, oas, g1, r1, S.step s1 b1, q1⟩
  | false => exact iteF ⟨H0, r0, Wo, env, oas, g1, r1, S.step s1 b1, q1⟩
/-- target = value, from the layer's rule -/
theorem ss_asg {st : Stmt} {m : ME} {is : List Nat} {tg : TG} {bind : Bnd} (h : PS X st (tAsg (RE C Wx m) tg)) (hb : BindS C is tg bind) : PS X st (RS C Wx (mAsg m bind)) := PSm' h fun D σ H h => by
  obtain ⟨H0, r0, Wo, env, oas, g, r, S, P⟩ := h
  refine ⟨Wf oas Wo, env, oas, g, r, S.sm, Post.mono (PoS.split S.st P) fun v H1 ⟨d, g1, r1, b1, s1, p1, q1⟩ => ?_⟩
  have S1 := S.step s1 b1
  dsimp only at q1
  split at q1
  · rename_i env1 e1
    exact hb _ _ _ _ _ _ _ d v env1 _ S1.sm p1 e1 fun σ' oas' m' ho _ => q1 σ' H1 oas' r1 (S1.less m' ho) (kp_sub ho)
  · exact q1.elim
/-- name = value -/
theorem ss_set (i : Nat) {x : Str} {e : Expr} {pos pos' : Pos} {m : ME} (hN : X.N.Nodup) (hi : X.N[i]? = some x) (hx : Loc X.env.scope x) (he : PE X e (RE C Wx m)) (hs : swapsWith e (some (.Name x pos')) pos.line X.env = pure false := by rfl) (hf : X.fn x = true ∨ X.env.scope.names.lookup x = some .local := by first | exact .inl rfl | exact .inr rfl | assumption) :
    PS X (.Assign [.Name x pos'] e pos) (RS C Wx (mAsg m (bName i))) := ss_asg (ps_set hN hi hx he hs hf) (bs_name i)
/-- a, b, .. = value -/
theorem ss_setT (is : List Nat) {es : List Expr} {k : Nat} {e : Expr} {pos pos' : Pos} {m : ME} (hK : C.K = X.K) (hc : X.calm = true) (hg : PGs X es (gNames is)) (he : PE X e (RE C Wx m)) (hn : (assignEach es X.env).length = is.length := by rfl) (hst : (assignEach es X.env).findIdx? (·.1) = none := by rfl)
    (hs : swapsWithSole [.Tuple es k pos'] e pos.line X.env = pure false := by rfl) (hw : swappedStores [.Tuple es k pos'] e X.env = pure none := by rfl) (h1 : (assignEach [.Tuple es k pos'] X.env).map (·.2) = [assign (.Tuple es k pos') X.env] := by rfl) : PS X (.Assign [.Tuple es k pos'] e pos) (RS C Wx (mAsg m (bTup is))) :=
  ss_asg (ps_asg he (pg_tup hc hg hn hst) hs hw h1) (by rw [← hK]; exact bs_tup is)
/-- x, y = a, b: two local names -/
def mPar (i j : Nat) (ms : MA) : MS := fun env g => (ms env g).bind fun ds g1 => match ds with
  | [d, e] => .ok (.nx, (env.set i (.val d)).set j (.val e)) g1
  | _ => .stuck
theorem ss_par (i j : Nat) {x y : Str} {a b : Expr} {px py pt pos : Pos} {kt k2 pt2} {ms : MA} (hc : X.calm = true) (hN : X.N.Nodup) (hi : X.N[i]? = some x) (hj : X.N[j]? = some y) (hij : i ≠ j)
    (hx : X.env.scope.names.lookup x = some .local) (hy : X.env.scope.names.lookup y = some .local) (ha : PA X [a, b] (RA C Wx ms))
    (hw : swappedStores [.Tuple [.Name x px, .Name y py] kt pt] (.Tuple [a, b] k2 pt2) X.env = pure (some [x, y]))
    (hs : swapsWithSole [.Tuple [.Name x px, .Name y py] kt pt] (.Tuple [a, b] k2 pt2) pos.line X.env = pure false := by rfl) :
    PS X (.Assign [.Tuple [.Name x px, .Name y py] kt pt] (.Tuple [a, b] k2 pt2) pos) (RS C Wx (mPar i j ms)) := PSm' (ps_par hc hN hi hj hij hx hy ha hw hs) fun D σ H h => by
  obtain ⟨H0, r0, Wo, env, oas, g, r, S, P⟩ := h
  refine ⟨Wf oas Wo, env, oas, g, r, S.sm, Post.mono (PoS.split S.st P) fun v H1 ⟨d, g1, r1, b1, s1, p1, q1⟩ => ?_⟩
  have S1 := S.step s1 b1
  dsimp only at q1
  split at q1
  · cases p1 with
    | cons h1 t1 =>
      cases t1 with
      | cons h2 t2 =>
        cases t2
        refine ⟨_, _, rfl, q1 _ H1 ((oas.set i none).set j none) r1 (S1.less ((S1.sm.setV i h1).setV j h2) fun a z => mem_set_none (mem_set_none z)) (kp_sub fun a z => mem_set_none (mem_set_none z))⟩
  · exact q1.elim

/-! ### lists of one's own -/
/-- name = a new list, that may grow -/
def mSetO (i : Nat) (m : Ev → G → R (List D)) : MS := fun env g => (m env g).bind fun ds g1 => .ok (.nx, env.set i (.ol ds)) g1
theorem get_set_some {l : List (Option Addr)} {i j : Nat} {a b : Addr} (h : (l.set i (some a))[j]? = some (some b)) : (j = i ∧ b = a) ∨ (j ≠ i ∧ l[j]? = some (some b)) := by
  by_cases e : i = j
  · subst e
    by_cases hl : i < l.length
    · rw [List.getElem?_set_self hl] at h; cases h; exact .inl ⟨rfl, rfl⟩
    · rw [List.getElem?_eq_none (by simpa using hl)] at h; cases h
  · rw [List.getElem?_set_ne e] at h
    exact .inr ⟨fun z => e z.symm, h⟩
theorem mem_set_some {l : List (Option Addr)} {i : Nat} {a b : Addr} (h : some b ∈ l.set i (some a)) : b = a ∨ some b ∈ l := by
  rcases List.mem_or_eq_of_mem_set h with q | q
  · exact .inr q
  · cases q; exact .inl rfl
/-- the new object becomes the name's own -/
theorem Ss.own {H0 H H' : Hp} {r0 r r' : List Addr} {Wo : Addr → Prop} {env : Ev} {oas : List (Option Addr)} {g g' : G} {σ : L2.St} {a : Addr} {s : Slot} (S : Ss C H0 r0 Wo env oas g r σ H) (i : Nat) (b : Bs C (fun z => z = a ∨ Wf oas Wo z) g' r' H') (st : Step r r' H H') (ha : H a = none)
    (ho : SlR C r' (fun z => z = a ∨ Wf oas Wo z) H' s (some a) (some (.ref a))) : Ss C H0 r0 Wo (env.set i s) (oas.set i (some a)) g' r' (σ.set i (some (.ref a))) H' ∧ Kp r r' (Wf oas Wo) (Wf (oas.set i (some a)) Wo) H H' := by
  have sub : ∀ z, Wf (oas.set i (some a)) Wo z → z = a ∨ Wf oas Wo z := fun z q => by
    rcases q with q | q
    · rcases mem_set_some q with e | e
      · exact .inl e
      · exact .inr (.inl e)
    · exact .inr (.inr q)
  have nW : ¬ Wf oas Wo a := S.sm.bs.w0 ha
  have k1 : Kp r r' (Wf oas Wo) (fun z => z = a ∨ Wf oas Wo z) H H' := ⟨st.pre, fun z q => by
      rcases q with q | q | q
      · rcases st.fresh z q with e | e
        · exact .inl e
        · exact .inr (.inr e)
      · exact .inr (.inr (by rw [q]; exact ha))
      · exact .inr (.inl q), fun z u e hr _ no => st.ext z u e hr no, st.dom⟩
  have sl1 : Sls C r' (fun z => z = a ∨ Wf oas Wo z) H' env oas σ := S.sm.sl.keep k1 fun z hz => by
    obtain ⟨u, h1, h2, _⟩ := S.sm.sl.tr hz
    rw [h1]
    exact st.ext z u h1 (fun q => S.sm.bs.dis z q (S.sm.own z hz)) h2
  have down : ∀ z, Wf (oas.set i (some a)) Wo z → (fun z => z = a ∨ Wf oas Wo z) z := sub
  refine ⟨⟨⟨b.anti down, ?_, fun z q => .inl q, fun j k z h1 h2 => ?_⟩, S.st.trans st, fun z q => ?_, S.wo⟩, ?_⟩
  · exact (sl1.set ho i).keep ⟨fun _ _ h => h, fun z q => q.elim .inl fun q => .inr (.inl (down z q)), fun _ _ h _ _ _ => h, fun _ h => h⟩ fun _ _ => rfl
  · rcases get_set_some h1 with ⟨e1, e2⟩ | ⟨e1, e2⟩ <;> rcases get_set_some h2 with ⟨e3, e4⟩ | ⟨e3, e4⟩
    · rw [e1, e3]
    · rw [e2] at e4; exact absurd (.inl (List.mem_of_getElem? e4)) nW
    · rw [e4] at e2; exact absurd (.inl (List.mem_of_getElem? e2)) nW
    · exact S.sm.ownd j k z e2 e4
  · rcases mem_set_some q with e | e
    · rw [e]; exact S.st.dom _ ha
    · exact S.fr z e
  · exact k1.trans ⟨fun _ _ h => h, fun z q => q.elim .inl fun q => .inr (.inl (down z q)), fun _ _ h _ _ _ => h, fun _ h => h⟩
theorem ss_own {st : Stmt} {m : Ev → G → R (List D)} (i : Nat) (h : PS X st (tAsg (RN C Wx m) (gName i))) : PS X st (RS C Wx (mSetO i m)) := PSm' h fun D σ H h => by
  obtain ⟨H0, r0, Wo, env, oas, g, r, S, P⟩ := h
  refine ⟨Wf oas Wo, env, oas, g, r, S.sm, ?_⟩
  unfold mSetO at P
  revert P
  cases m env g with
  | stuck => exact fun P => P
  | exc c fs g1 => exact fun P cl dx H' r' b s q => P cl dx σ H' r' (b.anti wo_wf) (S.st.trans s) (q.anti wo_wf)
  | ok ds g1 =>
    intro P a H' r' b s ha hw ⟨xs, h1, h2, h3⟩
    obtain ⟨S1, k1⟩ := S.own i b s ha (.ol h1 h2 h3)
    exact P _ H' _ r' S1 k1
/-- a name's own list is not changed any more: it is a value from now on -/
def frz (i : Nat) (env : Ev) : Ev := match env[i]? with
  | some (.ol ds) => env.set i (.val (.lst ds))
  | some (.oK kvs) => env.set i (.val (.dK kvs))
  | some (.oT kvs) => env.set i (.val (.dT kvs))
  | _ => env
def mFrz (i : Nat) (m : MS) : MS := fun env g => m (frz i env) g
theorem set_self {l : L2.St} {i : Nat} {v : Option V} (h : l[i]? = some v) : l.set i v = l := by
  obtain ⟨hl, e⟩ := List.getElem?_eq_some_iff.mp h
  subst e
  exact List.set_getElem_self hl
theorem Ss.frz {H0 H : Hp} {r0 r : List Addr} {Wo : Addr → Prop} {env : Ev} {oas : List (Option Addr)} {g : G} {σ : L2.St} {i : Nat} {ds : List D} (S : Ss C H0 r0 Wo env oas g r σ H) (e : env[i]? = some (.ol ds)) : ∃ oas', Ss C H0 r0 Wo (env.set i (.val (.lst ds))) oas' g r σ H ∧ ∀ a, some a ∈ oas' → some a ∈ oas := by
  obtain ⟨o, v, h1, h2, h3⟩ := S.sm.sl.get e
  cases h3 with
  | @ol a _ xs h hz q =>
    have hm : some a ∈ oas := List.mem_of_getElem? h1
    have hr : a ∉ r := fun z => S.sm.bs.dis a z (S.sm.own a hm)
    have hsub : ∀ z, some z ∈ oas.set i none → some z ∈ oas := fun z q => mem_set_none q
    have nW : ¬ Wf (oas.set i none) Wo a := fun z => by
      rcases z with z | z
      · obtain ⟨j, hj⟩ := List.getElem?_of_mem z
        obtain ⟨h4, h5⟩ := get_set_none hj
        exact h5 (S.sm.ownd j i a h4 h1)
      · exact S.wo a z (S.fr a hm)
    refine ⟨oas.set i none, ⟨⟨S.sm.bs.anti (wf_sub hsub), ?_, fun z q => .inl q, fun j k z q1 q2 => S.sm.ownd j k z (get_set_none q1).1 (get_set_none q2).1⟩, S.st, fun z q => S.fr z (hsub z q), S.wo⟩, hsub⟩
    have sl : Sls C r (Wf (oas.set i none) Wo) H env oas σ := S.sm.sl.keep (kp_sub hsub) fun _ _ => rfl
    have := sl.set (.val (.lst h hz hr nW (q.anti (wf_sub hsub)))) i
    rw [set_self h2] at this
    exact this
/-- an own dict becomes a value, and is locked -/
theorem Ss.fz {H0 H : Hp} {r0 r : List Addr} {Wo : Addr → Prop} {env : Ev} {oas : List (Option Addr)} {g : G} {σ : L2.St} {i : Nat} {a : Addr} {s : Slot} {d : D} {o : HO} (S : Ss C H0 r0 Wo env oas g r σ H) (h1 : oas[i]? = some (some a)) (h2 : σ[i]? = some (some (.ref a))) (h3 : SlR C r (Wf oas Wo) H s (some a) (some (.ref a))) (nt : ¬ Nw o)
    (hq : a ∉ r → ∀ W' : Addr → Prop, Kp r r (Wf oas Wo) W' H (L2.upd H a o) → ¬ W' a → Rp C r W' (L2.upd H a o) d (.ref a)) : ∃ oas', Ss C H0 r0 Wo (env.set i (.val d)) oas' g r σ (L2.upd H a o) ∧ Kp r r (Wf oas Wo) (Wf oas' Wo) H (L2.upd H a o) := by
  have hm : some a ∈ oas := List.mem_of_getElem? h1
  have hw : Wf oas Wo a := .inl hm
  have hr : a ∉ r := fun z => S.sm.bs.dis a z (S.sm.own a hm)
  have hsub : ∀ z, some z ∈ oas.set i none → some z ∈ oas := fun z q => mem_set_none q
  have na : ∀ z, some z ∈ oas.set i none → z ≠ a := fun z q e => by
    obtain ⟨j, hj⟩ := List.getElem?_of_mem q
    obtain ⟨h4, h5⟩ := get_set_none hj
    rw [e] at h4
    exact h5 (S.sm.ownd j i a h4 h1)
  have nW : ¬ Wf (oas.set i none) Wo a := fun z => by
    rcases z with z | z
    · exact na a z rfl
    · exact S.wo a z (S.fr a hm)
  obtain ⟨u, e1, e2, e3⟩ := h3.tr
  have b : Bs C (Wf oas Wo) g r (L2.upd H a o) := S.sm.bs.write hw (fun ps z => e2 ps (Option.some.inj (e1.symm.trans z))) nt (fun q z => e3 q (Option.some.inj (e1.symm.trans z)))
  have k : Kp r r (Wf oas Wo) (Wf (oas.set i none) Wo) H (L2.upd H a o) := (Kp.write (H := H) (o := o) hw).trans (kp_sub hsub)
  refine ⟨oas.set i none, ⟨⟨b.anti (wf_sub hsub), ?_, fun z q => .inl q, fun j k z q1 q2 => S.sm.ownd j k z (get_set_none q1).1 (get_set_none q2).1⟩, S.st.newer (S.fr a hm), fun z q => S.fr z (hsub z q), S.wo⟩, k⟩
  have sl := S.sm.sl.set (SlR.no (v := some (.ref a))) i
  rw [set_self h2] at sl
  have sl2 : Sls C r (Wf (oas.set i none) Wo) (L2.upd H a o) (env.set i .no) (oas.set i none) σ := sl.keep k fun z q => upd_ne (na z q)
  have := sl2.set (.val (hq hr _ k nW)) i
  rw [set_self h2, List.set_set, List.set_set] at this
  exact this
theorem ss_frz {st : Stmt} {m : MS} (i : Nat) (h : PS X st (RS C Wx m)) : PS X st (RS C Wx (mFrz i m)) := by
  refine ⟨fun pins s σ H D I hw => ?_⟩
  obtain ⟨H0, r0, Wo, env, oas, g, r, S, P⟩ := hw
  unfold mFrz GT.frz at P
  cases e : env[i]? with
  | none =>
    rw [e] at P
    exact h.run pins s σ H D I ⟨H0, r0, Wo, env, oas, g, r, S, P⟩
  | some sl =>
    rw [e] at P
    cases sl with
    | ol ds =>
      obtain ⟨oas', S', ho⟩ := S.frz e
      exact h.run pins s σ H D I ⟨H0, r0, Wo, _, oas', g, r, S', PoS.after P (kp_sub ho)⟩
    | oK kvs =>
      obtain ⟨o, v, h1, h2, h3⟩ := S.sm.sl.get e
      have h3' := h3
      cases h3 with
      | oK hd hl hz q =>
        obtain ⟨od, I'⟩ := I.lock hd trivial
        obtain ⟨oas', S', k⟩ := S.fz (i := i) (o := .frz od (.dK _)) h1 h2 h3' (fun z => nomatch z) fun hr W' k nw => .dK ⟨od, upd_same⟩ hl hz hr nw (q.keep k)
        exact h.run pins s σ _ D I' ⟨H0, r0, Wo, _, oas', g, r, S', PoS.after P k⟩
    | oT kvs =>
      obtain ⟨o, v, h1, h2, h3⟩ := S.sm.sl.get e
      have h3' := h3
      cases h3 with
      | oT hd hl hz q =>
        obtain ⟨od, I'⟩ := I.lock hd trivial
        obtain ⟨oas', S', k⟩ := S.fz (i := i) (o := .frz od (.dT _)) h1 h2 h3' (fun z => nomatch z) fun hr W' k nw => .dT ⟨od, upd_same⟩ hl hz hr nw (q.keep k)
        exact h.run pins s σ _ D I' ⟨H0, r0, Wo, _, oas', g, r, S', PoS.after P k⟩
    | _ => exact h.run pins s σ H D I ⟨H0, r0, Wo, env, oas, g, r, S, P⟩
/-- the name's own list is written -/
theorem Ss.wr {H0 H : Hp} {r0 r : List Addr} {Wo : Addr → Prop} {env : Ev} {oas : List (Option Addr)} {g : G} {σ : L2.St} {i : Nat} {a : Addr} {s s' : Slot} {o : HO} (S : Ss C H0 r0 Wo env oas g r σ H) (h1 : oas[i]? = some (some a)) (h2 : σ[i]? = some (some (.ref a))) (h3 : SlR C r (Wf oas Wo) H s (some a) (some (.ref a)))
    (nt : ¬ Nw o) (ho : SlR C r (Wf oas Wo) (L2.upd H a o) s' (some a) (some (.ref a))) : Ss C H0 r0 Wo (env.set i s') oas g r σ (L2.upd H a o) ∧ Kp r r (Wf oas Wo) (Wf oas Wo) H (L2.upd H a o) := by
  have hm : some a ∈ oas := List.mem_of_getElem? h1
  have hw : Wf oas Wo a := .inl hm
  obtain ⟨u, e1, e2, e3⟩ := h3.tr
  have b : Bs C (Wf oas Wo) g r (L2.upd H a o) := S.sm.bs.write hw (fun ps z => e2 ps (Option.some.inj (e1.symm.trans z))) nt (fun q z => e3 q (Option.some.inj (e1.symm.trans z)))
  have k : Kp r r (Wf oas Wo) (Wf oas Wo) H (L2.upd H a o) := Kp.write hw
  refine ⟨⟨⟨b, ?_, S.sm.own, S.sm.ownd⟩, S.st.newer (S.fr a hm), S.fr, S.wo⟩, k⟩
  -- the other names' own objects stay
  have : ∀ {env : Ev} {l : List (Option Addr)} {τ : L2.St} (n : Nat), Sls C r (Wf oas Wo) H env l τ → (∀ j, l[j]? = some (some a) → j = n) → l[n]? = some (some a) → τ[n]? = some (some (.ref a)) → Sls C r (Wf oas Wo) (L2.upd H a o) (env.set n s') l τ := fun {env l τ} n hs => by
    induction hs generalizing n with
    | nil => intro _ z _; simp at z
    | cons h t ih =>
      intro hu z1 z2
      cases n with
      | zero =>
        simp only [List.getElem?_cons_zero, Option.some.injEq] at z1 z2
        subst z1 z2
        refine .cons ho (t.keep k fun b hb => ?_)
        rw [upd_ne (fun q => ?_)]
        subst q
        obtain ⟨j, hj⟩ := List.getElem?_of_mem hb
        have := hu (j + 1) (by simpa using hj)
        omega
      | succ n =>
        refine .cons (h.keep k fun b hb => ?_) (ih n (fun j hj => by have := hu (j + 1) (by simpa using hj); omega) (by simpa using z1) (by simpa using z2))
        rw [upd_ne (fun q => ?_)]
        subst q
        have := hu 0 (by simp [hb])
        omega
  exact this i S.sm.sl (fun j hj => S.sm.ownd j i a hj h1) h1 h2
def mApp (i : Nat) (m : ME) : MS := fun env g => match env[i]? with
  | some (.ol ds) => (m env g).bind fun d g1 => if ds.length < 1000000 then .ok (.nx, env.set i (.ol (ds ++ [d]))) g1 else .stuck
  | _ => .stuck
def mExt (i : Nat) (m : ME) : MS := fun env g => match env[i]? with
  | some (.ol ds) => (m env g).bind fun d g1 => match d with
    | .lst es => if ds.length + es.length ≤ 1000000 then .ok (.nx, env.set i (.ol (ds ++ es))) g1 else .stuck
    | _ => .stuck
  | _ => .stuck
theorem own_list {H0 H : Hp} {r0 r : List Addr} {Wo : Addr → Prop} {env : Ev} {oas : List (Option Addr)} {g : G} {σ : L2.St} {i : Nat} {ds : List D} (S : Ss C H0 r0 Wo env oas g r σ H) (e : env[i]? = some (.ol ds)) :
    ∃ a xs, oas[i]? = some (some a) ∧ σ[i]? = some (some (.ref a)) ∧ H a = some (.lst xs) ∧ xs.length ≤ sizeLine ∧ RpL C r (Wf oas Wo) H ds xs := by
  obtain ⟨o, v, h1, h2, h3⟩ := S.sm.sl.get e
  cases h3 with
  | ol h hz q => exact ⟨_, _, h1, h2, h, hz, q⟩
theorem rs_app {i : Nat} {m : ME} {En : Ends} {σ : L2.St} {H : Hp} (h : RS C Wx (mApp i m) En σ H) : tDrop (tBM X.K "list" rAppend (tVar i) (tCons (RE C Wx m) tNil)) En σ H := by
  obtain ⟨H0, r0, Wo, env, oas, g, r, S, P⟩ := h
  unfold mApp at P
  split at P
  · rename_i ds e
    obtain ⟨a, xs, h1, h2, h3, hz, q⟩ := own_list S e
    refine ⟨_, h2, .inl ⟨rfl, xs, .inl (.inl h3)⟩, Wf oas Wo, env, oas, g, r, S.sm, Post.mono (PoS.split S.st P) fun v H1 ⟨d, g1, r1, b1, s1, p1, q1⟩ => ?_⟩
    have S1 := S.step s1 b1
    obtain ⟨a', xs', h1', h2', h3', hz', q'⟩ := own_list S1 e
    rw [h1] at h1'
    cases h1'
    dsimp only at q1
    split at q1
    · rename_i hl
      have hlen : xs'.length < sizeLine := by rw [← q'.length]; exact mil' hl
      refine ⟨a, xs', v, rfl, rfl, h3', hlen, ?_⟩
      obtain ⟨S2, k2⟩ := S1.wr (o := .lst (xs' ++ [v])) h1 h2 (.ol h3' hz' q') (fun z => nomatch z) (.ol upd_same (by simp; omega) ((q'.append (.cons p1 .nil)).keep (Kp.write (.inl (List.mem_of_getElem? h1)))))
      exact q1 σ _ oas r1 S2 k2
    · exact q1.elim
  · exact P.elim
theorem rs_ext {i : Nat} {m : ME} {En : Ends} {σ : L2.St} {H : Hp} (h : RS C Wx (mExt i m) En σ H) : tDrop (tBM X.K "list" rExtend (tVar i) (tCons (RE C Wx m) tNil)) En σ H := by
  obtain ⟨H0, r0, Wo, env, oas, g, r, S, P⟩ := h
  unfold mExt at P
  split at P
  · rename_i ds e
    obtain ⟨a, xs, h1, h2, h3, hz, q⟩ := own_list S e
    refine ⟨_, h2, .inl ⟨rfl, xs, .inl (.inl h3)⟩, Wf oas Wo, env, oas, g, r, S.sm, Post.mono (PoS.split S.st P) fun v H1 ⟨d, g1, r1, b1, s1, p1, q1⟩ => ?_⟩
    have S1 := S.step s1 b1
    obtain ⟨a', xs', h1', h2', h3', hz', q'⟩ := own_list S1 e
    rw [h1] at h1'
    cases h1'
    dsimp only at q1
    split at q1
    · split at q1
      · rename_i hl
        obtain ⟨b, ys, rfl, h4, hz4, q4⟩ := (PRp.of p1).isLst
        · have hlen : xs'.length + ys.length ≤ sizeLine := by rw [← q'.length, ← q4.length]; exact mil hl
          refine ⟨a, b, xs', ys, rfl, rfl, h3', h4, hlen, ?_⟩
          obtain ⟨S2, k2⟩ := S1.wr (o := .lst (xs' ++ ys)) h1 h2 (.ol h3' hz' q') (fun z => nomatch z) (.ol upd_same (by rw [List.length_append]; exact hlen) ((q'.append q4).keep (Kp.write (.inl (List.mem_of_getElem? h1)))))
          exact q1 σ _ oas r1 S2 k2
      · exact q1.elim
    · exact q1.elim
  · exact P.elim
theorem ss_app {i : Nat} {st : Stmt} {m : ME} (h : PS X st (tDrop (tBM X.K "list" rAppend (tVar i) (tCons (RE C Wx m) tNil)))) : PS X st (RS C Wx (mApp i m)) := PSm' h fun _ _ _ h => rs_app h
theorem ss_ext {i : Nat} {st : Stmt} {m : ME} (h : PS X st (tDrop (tBM X.K "list" rExtend (tVar i) (tCons (RE C Wx m) tNil)))) : PS X st (RS C Wx (mExt i m)) := PSm' h fun _ _ _ h => rs_ext h
/-- x = y.pop(), y a name's own list -/
def mPop (i j : Nat) : MS := fun env g => match env[j]? with
  | some (.ol ds) => match ds[ds.length - 1]? with
    | some d => .ok (.nx, (env.set j (.ol ds.dropLast)).set i (.val d)) g
    | none => .stuck
  | _ => .stuck
theorem ss_pop {i j : Nat} {st : Stmt} (h : PS X st (tAsg (tBM0 X.K "list" rPop (tVar j)) (gName i))) : PS X st (RS C Wx (mPop i j)) := PSm' h fun En σ H h => by
  obtain ⟨H0, r0, Wo, env, oas, g, r, S, P⟩ := h
  unfold mPop at P
  split at P
  · rename_i ds e
    split at P
    · rename_i d e2
      obtain ⟨a, xs, h1, h2, h3, hz, q⟩ := own_list S e
      obtain ⟨v, h4, h5⟩ := q.get e2
      refine ⟨_, h2, .inl ⟨rfl, xs, .inl (.inl h3)⟩, a, xs, v, rfl, rfl, h3, by rw [← q.length]; exact h4, ?_⟩
      have hw : Wf oas Wo a := .inl (List.mem_of_getElem? h1)
      obtain ⟨S2, k2⟩ := S.wr (o := .lst xs.dropLast) h1 h2 (.ol h3 hz q) (fun z => nomatch z) (.ol upd_same (by rw [List.length_dropLast]; omega) (q.dropLast.keep (Kp.write hw)))
      have S3 := S2.sm.setV i (h5.keep (Kp.write hw))
      exact P _ _ (oas.set i none) r (S2.less S3 fun a z => mem_set_none z) (k2.trans (kp_sub fun a z => mem_set_none z))
    · exact P.elim
  · exact P.elim
/-! ### loops -/
def forL (bind : Bnd) (body : MS) : List D → Ev → G → R (Fl × Ev)
  | [], env, g => .ok (.nx, env) g
  | d :: ds, env, g => match bind d env with
    | none => .stuck
    | some env1 => (body env1 g).bind fun p g1 => match p with
      | (.nx, env2) => forL bind body ds env2 g1
      | (.ct, env2) => forL bind body ds env2 g1
      | (.bk, env2) => .ok (.nx, env2) g1
      | (.rt d, env2) => .ok (.rt d, env2) g1
def mFor (mi : MI) (bind : Bnd) (body : MS) : MS := fun env g => (mi env g).bind fun ds g1 => forL bind body ds env g1
theorem rs_for {mi : MI} {is : List Nat} {bind : Bnd} {body : MS} {tg : TG} (hb : BindS C is tg bind) {En : Ends} {σ : L2.St} {H : Hp} (h : RS C Wx (mFor mi bind body) En σ H) : tFor (RI C Wx mi) tg (RS C Wx body) En σ H := by
  obtain ⟨H0, r0, Wo, env, oas, g, r, S, P⟩ := h
  refine ⟨Wf oas Wo, env, oas, g, r, S.sm, Post.mono (PoS.split S.st P) fun J H1 ⟨ds, g1, r1, b1, s1, ⟨hz, Gd, Y, w, st, yl⟩, P1⟩ => ?_⟩
  have S1 := S.step s1 b1
  refine for_it w (fun i σ' H' => ∃ env' oas' g' r', Ss C H0 r0 Wo env' oas' g' r' σ' H' ∧ Kp r1 r' (Wf oas Wo) (Wf oas' Wo) H1 H' ∧ PoS C Wx H0 r0 Wo r' oas' H' En (forL bind body (ds.drop i) env' g')) ?_ ?_ ?_ ?_
  · exact ⟨env, oas, g1, r1, S1, Kp.refl _ _ _, by rw [List.drop_zero]; exact P1⟩
  · rintro i σ' H' _ ⟨env', oas', g', r', _, k, _⟩
    exact st _ _ _ k
  · rintro i x σ' H' H'' hi ⟨env', oas', g', r', S', k, PP⟩ y
    obtain ⟨d, hd, b2, s2, q2⟩ := yl i r' _ g' H' x H'' k S'.sm.bs hi y
    have S2 := S'.step s2 b2
    have edrop : ds.drop i = d :: ds.drop (i + 1) := by
      obtain ⟨hlt, e⟩ := List.getElem?_eq_some_iff.mp hd
      rw [List.drop_eq_getElem_cons hlt, e]
    rw [edrop, forL] at PP
    cases hbd : bind d env' with
    | none => rw [hbd] at PP; exact PP.elim
    | some env1 =>
      rw [hbd] at PP
      refine hb _ _ _ _ _ _ _ d x env1 _ S2.sm q2 hbd fun σ3 oas3 m3 ho3 _ => ?_
      have S3 := S2.less m3 ho3
      have k3 : Kp r' r' (Wf oas' Wo) (Wf oas3 Wo) H' H'' := (s2.kp).trans (kp_sub ho3)
      refine ⟨H0, r0, Wo, env1, oas3, g', r', S3, ?_⟩
      have PP := PoS.after PP k3
      dsimp only at PP
      revert PP
      cases body env1 g' with
      | stuck => exact fun PP => PP
      | exc c fs g4 => exact fun PP => PP
      | ok p g4 =>
        obtain ⟨f, e4⟩ := p
        cases f with
        | nx => exact fun PP σ4 H4 oas4 r4 S4 k4 => ⟨e4, oas4, g4, r4, S4, (k.trans k3).trans k4, PoS.after (m := forL bind body (ds.drop (i + 1)) e4 g4) PP k4⟩
        | ct => exact fun PP σ4 H4 oas4 r4 S4 k4 => ⟨e4, oas4, g4, r4, S4, (k.trans k3).trans k4, PoS.after (m := forL bind body (ds.drop (i + 1)) e4 g4) PP k4⟩
        | bk => exact fun PP => PP
        | rt d => exact fun PP => PP
  · rintro σ' H' ⟨env', oas', g', r', S', k, PP⟩
    rw [List.drop_length] at PP
    exact PP σ' H' oas' r' S' (Kp.refl _ _ _)
theorem ss_for {tg iter : Expr} {body : List Stmt} {mi : MI} {is : List Nat} {bind : Bnd} {mb : MS} {tgt : TG} {pos : Pos} (hp : PassesOwn (model X.prog X.w) X.A X.env X.xe) (hc : X.calm = true) (hi : PI X tg iter (RI C Wx mi)) (hg : PG X tg tgt) (hb : BindS C is tgt bind) (hbd : PSs X body (RS C Wx mb))
    (hs : ∀ x, foldedSetIterable iter X.env x = pure x := by intro _; rfl) : PS X (.For tg iter body [] pos) (RS C Wx (mFor mi bind mb)) := PSm' (ps_for hp hc hi hg hbd hs) fun _ _ _ h => rs_for hb h
def whileL (mt : MT) (body : MS) : Nat → Ev → G → R (Fl × Ev)
  | 0, _, _ => .stuck
  | n + 1, env, g => (mt env g).bind fun b g1 => if b then (body env g1).bind fun p g2 => match p with
      | (.nx, env2) => whileL mt body n env2 g2
      | (.ct, env2) => whileL mt body n env2 g2
      | (.bk, env2) => .ok (.nx, env2) g2
      | (.rt d, env2) => .ok (.rt d, env2) g2
    else .ok (.nx, env) g1
def mWhile (n : Nat) (mt : MT) (body : MS) : MS := fun env g => whileL mt body n env g
theorem rs_while {n : Nat} {mt : MT} {body : MS} {En : Ends} {σ : L2.St} {H : Hp} (h : RS C Wx (mWhile n mt body) En σ H) : tWhile (RT C Wx mt) (RS C Wx body) En σ H := by
  obtain ⟨H0, r0, Wo, env, oas, g, r, S, P⟩ := h
  refine ⟨fun m σ' H' => ∃ env' oas' g' r', Ss C H0 r0 Wo env' oas' g' r' σ' H' ∧ PoS C Wx H0 r0 Wo r' oas' H' En (whileL mt body m env' g'), ⟨n, env, oas, g, r, S, P⟩, ?_⟩
  rintro m σ' H' ⟨env', oas', g', r', S', PP⟩
  cases m with
  | zero => exact PP.elim
  | succ m =>
    rw [whileL] at PP
    refine ⟨Wf oas' Wo, env', oas', g', r', S'.sm, Post.mono (PoS.split S'.st PP) fun c H1 ⟨b, g1, r1, b1, s1, e1, q1⟩ => ?_⟩
    subst e1
    have S1 := S'.step s1 b1
    cases c with
    | false => exact iteF (q1 σ' H1 oas' r1 S1 (Kp.refl _ _ _))
    | true =>
      refine iteT ⟨fun σ4 H4 => ∃ env4 oas4 g4 r4, Ss C H0 r0 Wo env4 oas4 g4 r4 σ4 H4 ∧ PoS C Wx H0 r0 Wo r4 oas4 H4 En (whileL mt body m env4 g4), fun σ4 H4 q => ⟨m, Nat.lt_succ_self m, q⟩, H0, r0, Wo, env', oas', g1, r1, S1, ?_⟩
      simp only [if_true] at q1
      revert q1
      cases body env' g1 with
      | stuck => exact fun q => q
      | exc c fs g4 => exact fun q => q
      | ok p g4 =>
        obtain ⟨f, e4⟩ := p
        cases f with
        | nx => exact fun q σ4 H4 oas4 r4 S4 k4 => ⟨e4, oas4, g4, r4, S4, PoS.after (m := whileL mt body m e4 g4) q k4⟩
        | ct => exact fun q σ4 H4 oas4 r4 S4 k4 => ⟨e4, oas4, g4, r4, S4, PoS.after (m := whileL mt body m e4 g4) q k4⟩
        | bk => exact fun q => q
        | rt d => exact fun q => q
theorem ss_while (n : Nat) {c : Expr} {body : List Stmt} {mt : MT} {mb : MS} {pos : Pos} (hp : PassesOwn (model X.prog X.w) X.A X.env X.xe) (hc : PT X c (RT C Wx mt)) (hb : PSs X body (RS C Wx mb)) : PS X (.While c body [] pos) (RS C Wx (mWhile n mt mb)) := PSm' (ps_while hp hc hb) fun _ _ _ h => rs_while h
end

/-! ### a def -/
def ev0 (n : Nat) (ds : List D) : Ev := ds.map .val ++ List.replicate (n - ds.length) .no
def mDef (n : Nat) (m : MS) : List D → G → R D := fun ds g => match m (ev0 n ds) g with
  | .ok (.nx, _) g1 => .ok .non g1
  | .ok (.rt d, _) g1 => .ok d g1
  | .ok (.bk, _) _ => .stuck
  | .ok (.ct, _) _ => .stuck
  | .exc c fs g1 => .exc c fs g1
  | .stuck => .stuck
section
variable {P : Program} {w : World} {K : PySem.W.Frag} {mg : Str → Option Value} {base : Heap} {C : Cst}
theorem sls_start {r : List Addr} {W : Addr → Prop} {H : Hp} (k : Nat) : ∀ {ds : List D} {vs : List V}, RpL C r W H ds vs → ∃ oas, Sls C r W H (ds.map Slot.val ++ List.replicate k Slot.no) oas (vs.map some ++ List.replicate k none) ∧ ∀ a, some a ∉ oas
  | _, _, .nil => by
    induction k with
    | zero => exact ⟨[], .nil, fun a h => by cases h⟩
    | succ k ih =>
      obtain ⟨o, h1, h2⟩ := ih
      refine ⟨none :: o, .cons .no h1, fun a h => ?_⟩
      rcases List.mem_cons.mp h with e | e
      · cases e
      · exact h2 a e
  | _, _, .cons h t => by
    obtain ⟨o, h1, h2⟩ := sls_start k t
    refine ⟨none :: o, .cons (.val h) h1, fun a h => ?_⟩
    rcases List.mem_cons.mp h with e | e
    · cases e
    · exact h2 a e
theorem def_ok {x qual : Str} {st : Stmt} {f : Addr} {fd : FuncData} {N ps : List Str} {k : Nat} {m : MS} (F : L2.Fun K x qual st f fd) (S : FnScope N ps (defScope st))
    (hbody : ∀ (cdv : Value) (A : Around) (outer : List Env) (s : Shared) (H : Hp) (E : XK), RoomG k (A.deeper (envOfC qual (defScope st) s.heap.objs.size f cdv)) →
      PSs (cxOf (L2.CX P w) P w K mg base N qual (defScope st) f cdv A outer s H E) (defBody st) (RS C (fun cls d _ H' => E cls d H') m)) : FnG P w K mg base (L2.CX P w) (k + 1) f fd ps (spOf C ps.length (mDef N.length m)) := by
  obtain ⟨oc, od, kV, doc, pm, an, cdv, ct, osl, rfl, lk, hcd⟩ := F.ex
  refine fnG_of lk hcd S (fun vs H Q E h => spOf_len h) fun A outer s H vs Q E hr h => ⟨_, hbody cdv A outer s H E hr, ?_⟩
  obtain ⟨r, W, g, ds, b, q, hl, Po⟩ := h
  obtain ⟨oas, h1, h2⟩ := sls_start (C := C) (r := r) (W := W) (H := H) (N.length - vs.length) q
  have sub : ∀ a, Wf oas W a → W a := fun a z => z.elim (fun z => absurd z (h2 a)) id
  have hle : ds.length = vs.length := q.length
  have anti : Kp r r W (Wf oas W) H H := ⟨fun _ _ h => h, fun a q => q.elim .inl fun q => .inr (.inl (sub a q)), fun _ _ h _ _ _ => h, fun _ h => h⟩
  refine ⟨H, r, W, ev0 N.length ds, oas, g, r, ⟨⟨b.anti sub, ?_, fun a z => .inl z, fun i j a z _ => absurd (List.mem_of_getElem? z) (h2 a)⟩, Step.refl _ _, fun a z => absurd z (h2 a), fun a z => b.wtr a z⟩, ?_⟩
  · unfold ev0 L2.start
    rw [hle]
    exact h1.keep anti fun a z => absurd z (h2 a)
  · unfold mDef at Po
    revert Po
    cases m (ev0 N.length ds) g with
    | stuck => exact fun Po => Po
    | exc c fs g1 => exact fun Po cl dx σ' H' r' b s q => Po cl dx H' r' b s q
    | ok p g1 =>
      obtain ⟨fl, e⟩ := p
      cases fl with
      | nx => exact fun Po σ' H' oas' r' S' _ => Po .non H' r' (S'.sm.bs.anti wo_wf) S'.st .non
      | rt d => exact fun Po => Po
      | bk => exact fun Po => Po.elim
      | ct => exact fun Po => Po.elim
end
end GT

/-! GtH: what the printed texts use. -/
namespace GT
open PySem PySem.Spec PyProof.Rows L2 RZ
theorem hu0 {A : Around} {k : Nat} (hr : RoomG k A) : A.units < cLine := by have := hr.un; omega
theorem hu1 {A : Around} {k : Nat} (hr : RoomG k A) : A.units + 1 < cLine := by have := hr.un; omega
theorem hu64 {A : Around} {k : Nat} (hr : RoomG k A) : A.units + 64 < cLine := by have := hr.un; omega
theorem hu65 {A : Around} {k : Nat} (hr : RoomG k A) : A.units + 65 < cLine := by have := hr.un; omega
theorem bb_len : bootBuiltins "len" = some (.builtin "len") := by decide +kernel
theorem bb_max : bootBuiltins "max" = some (.builtin "max") := by decide +kernel
theorem bb_min : bootBuiltins "min" = some (.builtin "min") := by decide +kernel
theorem bb_sum : bootBuiltins "sum" = some (.builtin "sum") := by decide +kernel
theorem bb_any : bootBuiltins "any" = some (.builtin "any") := by decide +kernel
theorem bb_all : bootBuiltins "all" = some (.builtin "all") := by decide +kernel
theorem bb_int : bootBuiltins "int" = some (.type "int") := by decide +kernel
theorem bb_str : bootBuiltins "str" = some (.type "str") := by decide +kernel
theorem bb_bool : bootBuiltins "bool" = some (.type "bool") := by decide +kernel
theorem bb_list : bootBuiltins "list" = some (.type "list") := by decide +kernel
theorem bb_tuple : bootBuiltins "tuple" = some (.type "tuple") := by decide +kernel
section
variable {X : Cx} {C : Cst} {Wx : WX}
/-- -e -/
def mNeg (m : ME) : ME := fun env g => (m env g).bind fun d g1 => match d with
  | .int i => .ok (.int (-i)) g1
  | _ => .stuck
theorem se_neg {a : Expr} {pos : Pos} {m : ME} (ha : PE X a (RE C Wx m)) : PE X (.UnaryOp .USub a pos) (RE C Wx (mNeg m)) := PEm (pe_un un_neg ha) fun σ H Q h => by
  obtain ⟨W, env, oas, g, r, S, P⟩ := h
  refine ⟨W, env, oas, g, r, S, Post.mono (Post.split P) fun v H1 ⟨d, g1, r1, b1, s1, p1, q1⟩ => ?_⟩
  cases d with
  | int i => exact ⟨i, p1.isInt, Post.here (d := D.int (-i)) (g := g1) q1 b1 (.int _)⟩
  | _ => exact q1.elim
/-- name = [..] by the comprehension's own store -/
theorem ss_comp {i : Nat} {y : Str} {py : Pos} {elt tg iter : Expr} {ifs : List Expr} {scope : Scope} {own : List (Str × Nat)} {is : List Nat} {pos spos : Pos} {mi : MI} {bind : Bnd} {mt : MT} {me : ME} {tgt : TG} (hc : X.calm = true) (hN : X.N.Nodup) (hy : X.N[i]? = some y) (hyl : X.env.scope.names.lookup y = some .local)
    (hsw : swapsWith (.ListComp elt [⟨tg, iter, ifs, 0⟩] scope pos) (some (.Name y py)) spos.line X.env = pure true) (hi : PI X tg iter (RIq C Wx mi)) (ok : BlkOk X.N X.env.scope scope own) (hb : BindS C is tgt bind) (his : ∀ i ∈ is, i ∈ own.map (·.2))
    (hg : ∀ (s : Shared) (H : Hp) (C' : Addr) (cl : List (Str × Addr)) (fp : List Addr), PG (X.blk s H scope (compEnvC scope cl C' X.env) fp) tg tgt) (ht : ∀ (s : Shared) (H : Hp) (C' : Addr) (cl : List (Str × Addr)) (fp : List Addr), PTs (X.blk s H scope (compEnvC scope cl C' X.env) fp) ifs (RT C W0 mt))
    (he : ∀ (s : Shared) (H : Hp) (C' : Addr) (cl : List (Str × Addr)) (fp : List Addr), PE (X.blk s H scope (compEnvC scope cl C' X.env) fp) elt (RE C W0 me)) (hs : ∀ x, foldedSetIterable iter X.env x = pure x := by intro _; rfl) :
    PS X (.Assign [.Name y py] (.ListComp elt [⟨tg, iter, ifs, 0⟩] scope pos) spos) (tAsg (RN C Wx (mComp (own.map (·.2)) mi bind mt me)) (gName i)) :=
  PSm' (ps_setLc hc hN hy hyl hsw hi ok hg ht he hs) fun En σ H h => re_comp hb his h
theorem ss_val {st : Stmt} {m : Ev → G → R (List D)} {i : Nat} (h : PS X st (tAsg (RN C Wx m) (gName i))) : PS X st (RS C Wx (mAsg (mNew m) (bName i))) := ss_asg (PSm' h fun En σ H h => re_new h) (bs_name i)
/-- name += e, name -= e: ints -/
def mAug (f : Int → Int → Int) (i : Nat) (m : ME) : MS := fun env g => match env[i]? with
  | some (.val (.int a)) => (m env g).bind fun d g1 => match d with
    | .int b => .ok (.nx, env.set i (.val (.int (f a b)))) g1
    | _ => .stuck
  | _ => .stuck
abbrev mAug_add := mAug fun i j => i + j
abbrev mAug_sub := mAug fun i j => i - j
theorem rs_aug {i : Nat} {m : ME} {f : Int → Int → Int} {En : Ends} {σ : L2.St} {H : Hp} (h : RS C Wx (mAug f i m) En σ H) : tAug i (RE C Wx m) (ipI f) En σ H := by
  obtain ⟨H0, r0, Wo, env, oas, g, r, S, P⟩ := h
  unfold mAug at P
  split at P
  · rename_i a e
    obtain ⟨o, v, h1, h2, h3⟩ := S.sm.sl.get e
    cases h3 with
    | val h =>
      refine ⟨_, h2, Wf oas Wo, env, oas, g, r, S.sm, Post.mono (PoS.split S.st P) fun v H1 ⟨d, g1, r1, b1, s1, p1, q1⟩ => ?_⟩
      have S1 := S.step s1 b1
      cases d with
      | int b =>
        refine ⟨a, b, h.isInt, p1.isInt, ?_⟩
        exact q1 _ H1 (oas.set i none) r1 (S1.less (S1.sm.setV i (.int _)) fun a z => mem_set_none z) (kp_sub fun a z => mem_set_none z)
      | _ => exact q1.elim
  · exact P.elim
theorem ss_aug_add (i : Nat) {x : Str} {e : Expr} {pos pos' : Pos} {m : ME} (hN : X.N.Nodup) (hi : X.N[i]? = some x) (hx : Loc X.env.scope x) (he : PE X e (RE C Wx m)) (hf : X.fn x = true ∨ X.env.scope.names.lookup x = some .local := by first | exact .inl rfl | exact .inr rfl | assumption) : PS X (.AugAssign (.Name x pos') .Add e pos) (RS C Wx (mAug_add i m)) := PSm' (ps_aug hN hi hx he ip_add hf) fun _ _ _ h => rs_aug h
theorem ss_aug_sub (i : Nat) {x : Str} {e : Expr} {pos pos' : Pos} {m : ME} (hN : X.N.Nodup) (hi : X.N[i]? = some x) (hx : Loc X.env.scope x) (he : PE X e (RE C Wx m)) (hf : X.fn x = true ∨ X.env.scope.names.lookup x = some .local := by first | exact .inl rfl | exact .inr rfl | assumption) : PS X (.AugAssign (.Name x pos') .Sub e pos) (RS C Wx (mAug_sub i m)) := PSm' (ps_aug hN hi hx he ip_sub hf) fun _ _ _ h => rs_aug h
end
/-- a def of the text that stands at its name -/
def At (K : PySem.W.Frag) (mg : Str → Option Value) (x : Str) (st : Stmt) : Prop := ∃ f fd, L2.Fun K x x st f fd ∧ mg x = some (.ref f)
/-- a def that may be called: it does what F does -/
def Cal (P : Program) (w : World) (base : Heap) (C : Cst) (x : Str) (k : Nat) (ps : List Str) (F : List D → G → R D) : Prop :=
  ∃ f fd, FnG P w C.K C.mg base (L2.CX P w) k f fd ps (spOf C ps.length F) ∧ C.mg x = some (.ref f) ∧ PySem.W.keepIn C.K (.ref f) = true ∧ Binds C.K fd ps []
theorem cal_of {P : Program} {w : World} {base : Heap} {C : Cst} {x : Str} {st : Stmt} {N ps : List Str} {k : Nat} {m : MS} (F : At C.K C.mg x st) (S : FnScope N ps (defScope st))
    (hb : ∀ (kV doc pm : Value) (an : Option Addr) (cdv ct : Value) (us : List Value), us.length = ps.length → bindArgs (PySem.W.fnOf x x (defArgs st) (defBody st) (defScope st) .none kV doc pm an cdv ct) ⟨us, []⟩ = pure (ps.zip us))
    (hbody : ∀ (f : Addr) (cdv : Value) (A : Around) (outer : List Env) (s : Shared) (H : Hp) (E : XK), RoomG k (A.deeper (envOfC x (defScope st) s.heap.objs.size f cdv)) →
      PSs (cxOf (L2.CX P w) P w C.K C.mg base N x (defScope st) f cdv A outer s H E) (defBody st) (RS C (fun cls d _ H' => E cls d H') m)) : Cal P w base C x (k + 1) ps (mDef N.length m) := by
  obtain ⟨f, fd, F, g⟩ := F
  exact ⟨f, fd, def_ok F S (hbody f), g, F.kp, F.binds hb⟩
end GT

/-! GtI: lambdas: made, handed on, called. -/
namespace GT
open PySem PySem.Spec PyProof.Rows L2 RZ
def PinsOk (H : Hp) (as : List Addr) : Prop := ∀ a ∈ as, ∃ o, H a = some (PinO a o)
/-- without the pins; with them again -/
def unp (as : List Addr) (H : Hp) : Hp := fun a => if a ∈ as then none else H a
def rep (as : List Addr) (H0 H : Hp) : Hp := fun a => if a ∈ as then H0 a else H a
section
variable {as : List Addr} {H H0 H' : Hp} {a : Addr} {o : HO}
theorem unp_in (h : a ∈ as) : unp as H a = none := by unfold unp; rw [if_pos h]
theorem unp_out (h : a ∉ as) : unp as H a = H a := by unfold unp; rw [if_neg h]
theorem rep_in (h : a ∈ as) : rep as H0 H a = H0 a := by unfold rep; rw [if_pos h]
theorem rep_out (h : a ∉ as) : rep as H0 H a = H a := by unfold rep; rw [if_neg h]
theorem unp_some (h : unp as H a = some o) : a ∉ as ∧ H a = some o := by
  by_cases q : a ∈ as
  · rw [unp_in q] at h; cases h
  · rw [unp_out q] at h; exact ⟨q, h⟩
theorem unp_none (h : H a = none) : unp as H a = none := by
  by_cases q : a ∈ as
  · exact unp_in q
  · rw [unp_out q]; exact h
theorem PinsOk.out (p : PinsOk H as) (h : H a = some o) (no : ∀ ob, o ≠ PinO a ob) : a ∉ as := fun z => by
  obtain ⟨ob, e⟩ := p a z
  rw [h] at e
  exact no ob (Option.some.inj e)
theorem PinsOk.unp (p : PinsOk H as) (h : H a = some o) (no : ∀ ob, o ≠ PinO a ob) : unp as H a = some o := by rw [unp_out (p.out h no)]; exact h
theorem PinsOk.no (p : PinsOk H as) (h : H a = none) : a ∉ as := fun z => by
  obtain ⟨ob, e⟩ := p a z
  rw [h] at e; cases e
end
section
variable {P : Program} {w : World} {K : PySem.W.Frag} {mg : Str → Option Value} {base : Heap} {A : Around} {outer : List Env} {s s' : Shared} {as : List Addr} {H H' : Hp} {h : Heap}
theorem hok_unp (p : PinsOk H as) (x : HOk P w H h) : HOk P w (unp as H) h := fun a o e => by
  obtain ⟨n, e⟩ := unp_some e
  exact (x a o e).stay (fun b u _ q => q) (fun b q => p.unp q (fun ob z => by unfold PinO at z; cases z)) fun b xs q => p.unp q (fun ob z => by unfold PinO at z; cases z)
theorem hok_pin (x : HOk P w (unp as H) h) (p : ∀ a ∈ as, ∃ o, H a = some (PinO a o) ∧ h.get? a = some o) : HOk P w H h := fun a o e => by
  by_cases q : a ∈ as
  · obtain ⟨ob, e1, e2⟩ := p a q
    rw [e] at e1
    cases e1
    exact ⟨e2, ob, e2⟩
  · have e' : unp as H a = some o := by rw [unp_out q]; exact e
    exact (x a o e').stay (fun b u _ q => q) (fun b q => (unp_some q).2) fun b xs q => (unp_some q).2
theorem hok_rep (p : ∀ a ∈ as, ∃ o, H a = some (PinO a o) ∧ h.get? a = some o) (z : ∀ a ∈ as, H' a = none) (x : HOk P w H' h) : HOk P w (rep as H H') h := by
  refine hok_pin (as := as) ?_ fun a ha => ?_
  · have e : unp as (rep as H H') = H' := by
      funext a
      by_cases q : a ∈ as
      · rw [unp_in q, z a q]
      · rw [unp_out q, rep_out q]
    rw [e]
    exact x
  · obtain ⟨o, e1, e2⟩ := p a ha
    exact ⟨o, by rw [rep_in ha]; exact e1, e2⟩
theorem env0_pin (x : Env0 P w K mg base A outer s (unp as H)) (p : ∀ a ∈ as, ∃ o, H a = some (PinO a o) ∧ s.heap.get? a = some o) (nf : ∀ a ∈ as, a ∉ frs outer) (nb : ∀ a ∈ as, base.get? a = none) : Env0 P w K mg base A outer s H where
  frames := x.frames
  mod := x.mod
  bs := fun b o e => ⟨(x.bs b o e).1, by
    rw [← unp_out (H := H) (as := as) fun z => by have := nb b z; rw [e] at this; cases this]
    exact (x.bs b o e).2⟩
  bsz := x.bsz
  funs := x.funs
  frf := fun b hb => by rw [← unp_out (H := H) (as := as) fun z => nf b z hb]; exact x.frf b hb
  hok := hok_pin x.hok p
  bare := x.bare
theorem env0_unp (p : PinsOk H as) (x : Env0 P w K mg base A outer s H) : Env0 P w K mg base A outer s (unp as H) :=
  ⟨x.frames, x.mod, fun b o e => ⟨(x.bs b o e).1, unp_none (x.bs b o e).2⟩, x.bsz, x.funs, fun b hb => unp_none (x.frf b hb), hok_unp p x.hok, x.bare⟩
/-- the callee ran with the pins -/
theorem cr_up {Q Q' : VK} {E E' : XK} {r : Result} (p : PinsOk H as) (nf : ∀ a ∈ as, a ∉ frs outer) (x : HOk P w H s.heap)
    (hq : ∀ v H', PinsOk H' as → Q' v H' → Q v (unp as H')) (he : ∀ c d H', PinsOk H' as → E' c d H' → E c d (unp as H')) (h : CR (L2.CX P w) outer P w H s Q' E' r s') : CR (L2.CX P w) outer P w (unp as H) s Q E r s' := by
  have same : ∀ H' : Hp, (∀ b o u, H b = some (.frz o u) → H' b = some (.frz o u)) → PinsOk H' as := fun H' f a ha => by
    obtain ⟨o, e⟩ := p a ha
    exact ⟨o, f a o _ e⟩
  have at0 : ∀ (H' : Hp) (a : Addr) (o : Obj), (∀ b o u, H b = some (.frz o u) → H' b = some (.frz o u)) → a ∈ as → s.heap.get? a = some o → H' a = some (PinO a o) := fun H' a o f ha e => by
    obtain ⟨o', e1⟩ := p a ha
    have z : s.heap.get? a = some o' := (x a _ e1).1
    rw [e] at z
    cases z
    exact f a _ _ e1
  cases r with
  | ok fl =>
    cases fl with
    | ret u =>
      obtain ⟨v, H', os, bare, un, hok, rv, q⟩ := h
      have p' := same H' un.frzs
      refine ⟨v, unp as H', os, bare, ⟨fun b o e n hb hx => ?_, fun b o e n hb hx => ?_, fun b o e n hx => ?_, fun b o e hx => un.there b o e hx, fun b xs e => ?_, fun b o u e => ?_, fun b ps e => ?_⟩, hok_unp p' hok, rv, hq v H' p' q⟩
      · by_cases z : b ∈ as
        · exact (hok b _ (at0 H' b o un.frzs z e)).1
        · rw [unp_out z] at n; exact un.keep b o e n hb hx
      · have z : b ∉ as := fun z => nf b z hb
        rw [unp_out z] at n; exact un.slot b o e n hb hx
      · by_cases z : b ∈ as
        · exact unp_in z
        · rw [unp_out z] at n ⊢; exact un.free b o e n hx
      · obtain ⟨z, e⟩ := unp_some e
        rw [unp_out z]; exact un.tups b xs e
      · obtain ⟨z, e⟩ := unp_some e
        rw [unp_out z]; exact un.frzs b o u e
      · obtain ⟨z, e⟩ := unp_some e
        rw [unp_out z]; exact un.tbls b ps e
    | next => exact h
    | brk => exact h
    | cont => exact h
  | error e =>
    obtain ⟨a, B, H', cls, d, eu, fl, hok, ub, na, os, bare, hE⟩ := h
    have p' := same H' ub.frzs
    refine ⟨a, B, unp as H', cls, d, eu, fl, hok_unp p' hok, ⟨fun b o e n hb => ?_, ub.slot, fun b o e n => ?_, ub.there, fun b xs e => ?_, fun b o u e => ?_, fun b ps e => ?_⟩, unp_none na, os, bare, he cls d H' p' hE⟩
    · by_cases z : b ∈ as
      · exact (hok b _ (at0 H' b o ub.frzs z e)).1
      · rw [unp_out z] at n; exact ub.keep b o e n hb
    · by_cases z : b ∈ as
      · exact unp_in z
      · rw [unp_out z] at n ⊢; exact ub.free b o e n
    · obtain ⟨z, e⟩ := unp_some e
      rw [unp_out z]; exact ub.tups b xs e
    · obtain ⟨z, e⟩ := unp_some e
      rw [unp_out z]; exact ub.frzs b o u e
    · obtain ⟨z, e⟩ := unp_some e
      rw [unp_out z]; exact ub.tbls b ps e
/-- the callee ran without the pins -/
theorem cr_down {Q Q' : VK} {E E' : XK} {r : Result} (p : PinsOk H as) (x : Env0 P w K mg base A outer s H)
    (hq : ∀ v H', (∀ a ∈ as, H' a = none) → Q' v H' → Q v (rep as H H')) (he : ∀ c d H', (∀ a ∈ as, H' a = none) → E' c d H' → E c d (rep as H H')) (h : CR (L2.CX P w) outer P w (unp as H) s Q' E' r s') : CR (L2.CX P w) outer P w H s Q E r s' := by
  have nf : ∀ a ∈ as, a ∉ frs outer := fun a ha z => by
    obtain ⟨o, e⟩ := p a ha
    rw [x.frf a z] at e; cases e
  have gt : ∀ a ∈ as, ∃ o, H a = some (PinO a o) ∧ s.heap.get? a = some o := fun a ha => by
    obtain ⟨o, e⟩ := p a ha
    exact ⟨o, e, (x.hok a _ e).1⟩
  cases r with
  | ok fl =>
    cases fl with
    | ret u =>
      obtain ⟨v, H', os, bare, un, hok, rv, q⟩ := h
      have z0 : ∀ a ∈ as, H' a = none := fun a ha => by
        obtain ⟨o, _, e⟩ := gt a ha
        exact un.free a o e (unp_in ha) (by simp)
      have gt' : ∀ a ∈ as, ∃ o, H a = some (PinO a o) ∧ s'.heap.get? a = some o := fun a ha => by
        obtain ⟨o, e1, e2⟩ := gt a ha
        exact ⟨o, e1, un.keep a o e2 (unp_in ha) (nf a ha) (by simp)⟩
      refine ⟨v, rep as H H', os, bare, ⟨fun b o e n hb hx => un.keep b o e (unp_none n) hb hx, fun b o e n hb hx => un.slot b o e (unp_none n) hb hx, fun b o e n hx => ?_, fun b o e hx => un.there b o e hx, fun b xs e => ?_, fun b o u e => ?_, fun b ps e => ?_⟩, hok_rep gt' z0 hok, rv, hq v H' z0 q⟩
      · rw [rep_out (p.no n)]; exact un.free b o e (unp_none n) hx
      · have z := p.out e (fun ob z => by unfold PinO at z; cases z)
        rw [rep_out z]; exact un.tups b xs (by rw [unp_out z]; exact e)
      · by_cases z : b ∈ as
        · rw [rep_in z]; exact e
        · rw [rep_out z]; exact un.frzs b o u (by rw [unp_out z]; exact e)
      · have z := p.out e (fun ob z => by unfold PinO at z; cases z)
        rw [rep_out z]; exact un.tbls b ps (by rw [unp_out z]; exact e)
    | next => exact h
    | brk => exact h
    | cont => exact h
  | error e =>
    obtain ⟨a, B, H', cls, d, eu, fl, hok, ub, na, os, bare, hE⟩ := h
    have z0 : ∀ a ∈ as, H' a = none := fun a ha => by
      obtain ⟨o, _, e⟩ := gt a ha
      exact ub.free a o e (unp_in ha)
    have gt' : ∀ a ∈ as, ∃ o, H a = some (PinO a o) ∧ B.get? a = some o := fun a ha => by
      obtain ⟨o, e1, e2⟩ := gt a ha
      exact ⟨o, e1, ub.keep a o e2 (unp_in ha) (nf a ha)⟩
    refine ⟨a, B, rep as H H', cls, d, eu, fl, hok_rep gt' z0 hok, ⟨fun b o e n hb => ub.keep b o e (unp_none n) hb, ub.slot, fun b o e n => ?_, ub.there, fun b xs e => ?_, fun b o u e => ?_, fun b ps e => ?_⟩, ?_, os, bare, he cls d H' z0 hE⟩
    · rw [rep_out (p.no n)]; exact ub.free b o e (unp_none n)
    · have z := p.out e (fun ob z => by unfold PinO at z; cases z)
      rw [rep_out z]; exact ub.tups b xs (by rw [unp_out z]; exact e)
    · by_cases z : b ∈ as
      · rw [rep_in z]; exact e
      · rw [rep_out z]; exact ub.frzs b o u (by rw [unp_out z]; exact e)
    · have z := p.out e (fun ob z => by unfold PinO at z; cases z)
      rw [rep_out z]; exact ub.tbls b ps (by rw [unp_out z]; exact e)
    · rw [rep_out (fun z => ?_)]
      · exact na
      · obtain ⟨o, _, e2⟩ := gt' a z
        rw [fl.2.1] at e2; cases e2
end
/-! ### the relation, without the pins and with them -/
section
variable {C : Cst} {r r' : List Addr} {W : Addr → Prop} {H H' : Hp} {as : List Addr} {g g' : G}
theorem Rd.unp {a : Addr} {o : HO} (p : PinsOk H as) (h : Rd H a o) (no : ∀ x, o ≠ .own x) (nf : ∀ x y, o ≠ .frz x y) : Rd (unp as H) a o := by
  rcases h with h | ⟨b, h⟩
  · exact .inl (p.unp h fun ob z => nf _ _ z)
  · exact .inr ⟨b, p.unp h fun ob z => by unfold PinO at z; cases z; exact no _ rfl⟩
theorem Fz.unp {a : Addr} {o : HO} (p : PinsOk H as) (h : Fz H a o) (no : ∀ x, o ≠ .own x) : Fz (unp as H) a o := by
  obtain ⟨b, h⟩ := h
  exact ⟨b, p.unp h fun ob z => by unfold PinO at z; cases z; exact no _ rfl⟩
mutual
theorem Rp.unp (p : PinsOk H as) : ∀ {d : D} {v : V}, d.nc = true → Rp C r W H d v → Rp C r W (unp as H) d v
  | _, _, _, .non => .non
  | _, _, _, .bl b => .bl b
  | _, _, _, .int i => .int i
  | _, _, _, .str x => .str x
  | _, _, n, .lst h hz hr hw q => .lst (p.unp h fun ob z => by unfold PinO at z; cases z) hz hr hw (RpL.unp p (by simpa only [D.nc] using n) q)
  | _, _, n, .tup h hz hr hw q => .tup (p.unp h fun ob z => by unfold PinO at z; cases z) hz hr hw (RpL.unp p (by simpa only [D.nc] using n) q)
  | _, _, n, .dK h hl hz hr hw q => .dK (Fz.unp p h (fun _ z => by cases z)) hl hz hr hw (RpL.unp p (by simpa only [D.nc, ncK_eq] using n) q)
  | _, _, n, .dT h hl hz hr hw q => .dT (Fz.unp p h (fun _ z => by cases z)) hl hz hr hw (RpL.unp p (by simpa only [D.nc, ncT_eq] using n) q)
  | _, _, _, .scr h hz hr hw => .scr (Rd.unp p h (fun _ z => by cases z) (fun _ _ z => by cases z)) hz hr hw
  | _, _, _, .scrK h1 h2 h3 h4 h5 h6 => .scrK h1 h2 h3 h4 h5 h6
  | _, _, _, .gr h => .gr h
  | _, _, _, .exn0 hc h hr hw => .exn0 hc (p.unp h fun ob z => by unfold PinO XO at z; cases z) hr hw
  | _, _, n, .exn hc h hr hw hd hdr hdw hl q => .exn hc (p.unp h fun ob z => by unfold PinO XO at z; cases z) hr hw (p.unp hd fun ob z => by unfold PinO at z; cases z) hdr hdw hl (RpL.unp p (by simpa only [D.nc, ncF_eq] using n) q)
  | _, _, n, .clo _ _ _ _ _ _ _ _ _ _ _ _ _ => by simp only [D.nc] at n; cases n
theorem RpL.unp (p : PinsOk H as) : ∀ {ds : List D} {vs : List V}, D.ncs ds = true → RpL C r W H ds vs → RpL C r W (unp as H) ds vs
  | _, _, _, .nil => .nil
  | _, _, n, .cons h t => by
    simp only [D.ncs, Bool.and_eq_true] at n
    exact .cons (Rp.unp p n.1 h) (RpL.unp p n.2 t)
end
theorem GOs.unp (p : PinsOk H as) : ∀ {g : G} {l : List Addr}, gnc g = true → GOs C r W H g l → GOs C r W (unp as H) g l
  | _, _, _, .nil => .nil
  | _, _, n, .cons h t => by
    unfold gnc at n
    rw [List.all_cons, Bool.and_eq_true] at n
    refine .cons ?_ (GOs.unp p n.2 t)
    cases h with
    | dct h hl hz q => exact .dct (p.unp h fun ob z => by unfold PinO at z; cases z) hl hz (RpL.unp p (by simpa only [GO.nc] using n.1) q)
    | ins h hl hc q => exact .ins (p.unp h fun ob z => by unfold PinO at z; cases z) hl hc (RpL.unp p (by simpa only [GO.nc] using n.1) q)
    | lst h hz q => exact .lst (p.unp h fun ob z => by unfold PinO at z; cases z) hz (RpL.unp p (by simpa only [GO.nc] using n.1) q)
    | dz h hl hz q => exact .dz (Fz.unp p h (fun _ z => by cases z)) hl hz (RpL.unp p (by simpa only [GO.nc] using n.1) q)
theorem Bs.unpB (p : PinsOk H as) (b : Bs C W g r H) (h1 : ∀ a ∈ as, a ∉ r ∧ ¬ W a) : Bs C W g r (unp as H) where
  tabs := fun q hq => by
    obtain ⟨ps, e1, e2, e3⟩ := b.tabs q hq
    refine ⟨ps, p.unp e1 (fun ob z => by unfold PinO at z; cases z), e2, fun pos cv hc => ?_⟩
    obtain ⟨c, q1, q2⟩ := e3 pos cv hc
    exact ⟨c, q1, p.unp q2 fun ob z => by unfold PinO LamX.CodeO at z; cases z⟩
  nd := b.nd
  rtr := fun a ha => by rw [unp_out fun z => (h1 a z).1 ha]; exact b.rtr a ha
  wtr := fun a ha => by rw [unp_out fun z => (h1 a z).2 ha]; exact b.wtr a ha
  dis := b.dis
  wnt := fun a ha xs n z => b.wnt a ha xs n (unp_some z).2
  objs := GOs.unp p b.gn b.objs
  gn := b.gn
theorem Step.unpS (s : Step r r' H H') : Step r r' (unp as H) (unp as H') where
  pre := s.pre
  fresh := fun a ha => (s.fresh a ha).imp id unp_none
  ext := fun a o e hr no => by
    obtain ⟨z, e⟩ := unp_some e
    rw [unp_out z]; exact s.ext a o e hr no
  dom := fun a e => by
    by_cases z : a ∈ as
    · exact unp_in z
    · rw [unp_out z] at e ⊢; exact s.dom a e
/-- more is known -/
theorem Bs.grow (b : Bs C W g r H) (e : ∀ a o, H a = some o → H' a = some o) : Bs C W g r H' where
  tabs := b.tabs.ext e
  nd := b.nd
  rtr := fun a ha z => b.rtr a ha (by
    cases q : H a with
    | none => rfl
    | some o => rw [e a o q] at z; cases z)
  wtr := fun a ha z => b.wtr a ha (by
    cases q : H a with
    | none => rfl
    | some o => rw [e a o q] at z; cases z)
  dis := b.dis
  wnt := fun a ha xs n z => by
    cases q : H a with
    | none => exact b.wtr a ha q
    | some o => rw [e a o q] at z; exact b.wnt a ha xs n (by rw [q]; exact z)
  objs := b.objs.keep ⟨fun _ _ h => h, fun a q => q.elim .inl fun q => .inr (.inl q), fun a o h _ _ _ => e a o h, fun a h => by
      cases q : H a with
      | none => rfl
      | some o => rw [e a o q] at h; cases h⟩ fun a ha => by
    cases q : H a with
    | none => exact absurd q (b.rtr a ha)
    | some o => rw [e a o q]
  gn := b.gn
theorem step_grow (e : ∀ a o, H a = some o → H' a = some o) : Step r r H H' := ⟨fun _ _ h => h, fun _ h => .inl h, fun a o h _ _ => e a o h, fun a h => by
    cases q : H a with
    | none => rfl
    | some o => rw [e a o q] at h; cases h⟩
theorem rep_ext (z : ∀ a ∈ as, H' a = none) : ∀ a o, H' a = some o → rep as H H' a = some o := fun a o e => by
  rw [rep_out fun q => ?_]
  · exact e
  · rw [z a q] at e; cases e
theorem Step.repS (s : Step r r' (unp as H) H') (b : Bs C W g r' H') (p : PinsOk H as) (z : ∀ a ∈ as, H' a = none) : Step r r' H (rep as H H') where
  pre := s.pre
  fresh := fun a ha => by
    have n : a ∉ as := fun q => b.rtr a ha (z a q)
    rcases s.fresh a ha with q | q
    · exact .inl q
    · rw [unp_out n] at q; exact .inr q
  ext := fun a o e hr no => by
    by_cases q : a ∈ as
    · rw [rep_in q]; exact e
    · rw [rep_out q]; exact s.ext a o (by rw [unp_out q]; exact e) hr no
  dom := fun a e => by
    by_cases q : a ∈ as
    · rw [rep_in q] at e; exact e
    · rw [rep_out q] at e
      have := s.dom a e
      rw [unp_out q] at this; exact this
theorem ExR.unp {c : Str} {fs : List (Str × D)} {cl : Addr} {dx : Option Addr} (p : PinsOk H as) (hn : D.ncs (fs.map (·.2)) = true) (h : ExR C r W H c fs cl dx) : ExR C r W (unp as H) c fs cl dx := by
  obtain ⟨h1, h | ⟨d, h0, h2, h3, xs, h4, h5, h6⟩⟩ := h
  · exact ⟨h1, .inl h⟩
  exact ⟨h1, .inr ⟨d, h0, h2, h3, xs, h4, p.unp h5 (fun ob z => by unfold PinO at z; cases z), RpL.unp p hn h6⟩⟩
theorem ExR.step {c : Str} {fs : List (Str × D)} {cl : Addr} {dx : Option Addr} (s : Step r r' H H') (h : ExR C r W H c fs cl dx) : ExR C r' W H' c fs cl dx := by
  obtain ⟨h1, h | ⟨d, h0, h2, h3, xs, h4, h5, h6⟩⟩ := h
  · exact ⟨h1, .inl h⟩
  refine ⟨h1, .inr ⟨d, h0, fun z => ?_, h3, xs, h4, s.ext _ _ h5 h2 (fun _ z => by cases z), h6.step s⟩⟩
  rcases s.fresh d z with q | q
  · exact h2 q
  · rw [h5] at q; cases q
end
end GT

/-! GtJ: a lambda that is called; a lambda that is handed to a def. -/
namespace GT
open PySem PySem.Spec PyProof.Rows L2 RZ
/-- the names that a lambda catches, in the order of its closure -/
def freeN (scope : Scope) : List Str := ((scope.names.filter (fun y => y.2 == .free)).map (·.1)).reverse
theorem clo_eq (cells : List (Str × Addr)) : ∀ (names : List (Str × NameKind)) (acc : List (Str × Addr)), cloFrom cells names acc = ((names.filter (fun y => y.2 == .free)).map (fun y => (y.1, (cells.lookup y.1).getD 0))).reverse ++ acc
  | [], acc => by simp [cloFrom]
  | (n, k) :: r, acc => by
    unfold cloFrom
    by_cases q : (k == NameKind.free) = true
    · rw [if_pos q, clo_eq cells r, List.filter_cons_of_pos (by exact q)]
      simp
    · rw [if_neg q, clo_eq cells r, List.filter_cons_of_neg (by exact q)]
theorem clo_names (cells : List (Str × Addr)) (scope : Scope) : (cloFrom cells scope.names []).map (·.1) = freeN scope := by
  rw [clo_eq]
  unfold freeN
  simp [Function.comp_def]
/-- a lambda's names -/
structure LamSc (scope : Scope) (ps caps : List Str) : Prop where
  kind : scope.kind = .function
  co : scope.isCoroutine = false
  gen : scope.isGenerator = false
  noc : ∀ y ∈ scope.names, y.2 ≠ .cell
  par : ∀ x ∈ ps, scope.names.lookup x = some .local
  cap : ∀ x ∈ caps, scope.names.lookup x = some .free
  all : ∀ y ∈ scope.names, y.2 = .free → y.1 ∈ caps
  nd : (ps ++ caps).Nodup
def lamScB (scope : Scope) (ps caps : List Str) : Bool :=
  decide (scope.kind = .function) && !scope.isCoroutine && !scope.isGenerator && scope.names.all (fun y => !decide (y.2 = .cell)) && ps.all (fun x => decide (scope.names.lookup x = some .local)) && caps.all (fun x => decide (scope.names.lookup x = some .free)) &&
    scope.names.all (fun y => !decide (y.2 = .free) || decide (y.1 ∈ caps)) && decide (ps ++ caps).Nodup
theorem lamSc_by {scope : Scope} {ps caps : List Str} (h : lamScB scope ps caps = true) : LamSc scope ps caps := by
  unfold lamScB at h
  simp only [Bool.and_eq_true, Bool.or_eq_true, Bool.not_eq_true', decide_eq_true_eq, decide_eq_false_iff_not, List.all_eq_true] at h
  obtain ⟨⟨⟨⟨⟨⟨⟨h1, h2⟩, h3⟩, h4⟩, h5⟩, h6⟩, h7⟩, h8⟩ := h
  exact ⟨h1, h2, h3, h4, h5, h6, fun y hy e => (h7 y hy).resolve_left fun z => z e, h8⟩
abbrev clEnv (qual : Str) (scope : Scope) (cl : List (Str × Addr)) (L f c' : Addr) : Env := PySem.W.envX qual scope L f (.ref c') cl
/-- the context of a lambda's body -/
def clCx (P : Program) (w : World) (K : PySem.W.Frag) (mg : Str → Option Value) (base : Heap) (N : List Str) (qual : Str) (scope : Scope) (cl : List (Str × Addr)) (f c' : Addr) (A : Around) (outer : List Env) (s : Shared) (H : Hp) (E : XK) : Cx where
  prog := P
  w := w
  K := K
  mg := mg
  base := base
  A := A.deeper (clEnv qual scope cl s.heap.objs.size f c')
  N := N
  s_0 := s
  H_0 := H
  env := clEnv qual scope cl s.heap.objs.size f c'
  outer := outer
  stack := clEnv qual scope cl s.heap.objs.size f c' :: outer
  ex := []
  fn := fun _ => false
  calm := true
  pn := []
  xe := fun e s' => wpAny (model P w) (A.deeper (clEnv qual scope cl s.heap.objs.size f c')) (leaving (clEnv qual scope cl s.heap.objs.size f c') e) (fun _ s'' => L2.CX P w outer H s E e s'') (fun e' s'' => L2.CX P w outer H s E e' s'') s'
theorem look_of {α : Type} : ∀ {l : List (Str × α)} {i : Nat} {x : Str} {c : α}, (l.map (·.1)).Nodup → l[i]? = some (x, c) → l.lookup x = some c
  | [], _, _, _, _, h => by simp at h
  | (y, d) :: r, 0, x, c, _, h => by simp at h; obtain ⟨rfl, rfl⟩ := h; simp
  | (y, d) :: r, i + 1, x, c, n, h => by
    have h : r[i]? = some (x, c) := by simpa using h
    rw [List.map_cons, List.nodup_cons] at n
    have ne : (x == y) = false := by
      rw [beq_eq_false_iff_ne]
      intro e
      subst e
      exact n.1 (List.mem_map.mpr ⟨(x, c), List.mem_of_getElem? h, rfl⟩)
    rw [List.lookup_cons, ne]
    exact look_of n.2 h
theorem map_fst_zip {α β : Type} : ∀ (l : List α) (m : List β), m.length = l.length → (l.zip m).map (·.1) = l
  | [], _, _ => by simp
  | a :: l, [], h => by simp at h
  | a :: l, b :: m, h => by simp [map_fst_zip l m (by simpa using h)]
theorem zip_look {ps : List Str} {us : List Value} (hl : us.length = ps.length) (nd : ps.Nodup) {i : Nat} {x : Str} {u : Value} (h1 : ps[i]? = some x) (h2 : us[i]? = some u) : (ps.zip us).reverse.lookup x = some u := by
  have e : (ps.zip us)[i]? = some (x, u) := by rw [List.getElem?_zip_eq_some]; exact ⟨h1, h2⟩
  have lt : i < (ps.zip us).length := (List.getElem?_eq_some_iff.mp e).1
  refine look_of (i := (ps.zip us).length - 1 - i) ?_ ?_
  · rw [List.map_reverse, map_fst_zip ps us hl]
    unfold List.Nodup
    rw [List.pairwise_reverse]
    exact nd.imp Ne.symm
  · rw [List.getElem?_reverse (by omega), show (ps.zip us).length - 1 - ((ps.zip us).length - 1 - i) = i by omega]
    exact e
section
variable {P : Program} {w : World} {K : PySem.W.Frag} {mg : Str → Option Value} {base : Heap}
theorem cl_start {A : Around} {outer : List Env} {E : XK} {s : Shared} {H : Hp} {scope : Scope} {ps caps : List Str} {qual : Str} {cl : List (Str × Addr)} {f c' : Addr} {h₁ : Heap} {tk : Nat} {us cus : List Value} {vs cvs : List V} (L : LamSc scope ps caps) (e0 : Env0 P w K mg base A outer s H) (hd : A.handled = none)
    (hcl : cl.map (·.1) = caps) (hi : ∀ x y a, cl.lookup x = some a → cl.lookup y = some a → x = y) (hc : ∀ (i : Nat) (p : Str × Addr), cl[i]? = some p → H p.2 = none ∧ ∃ u, cus[i]? = some u ∧ s.heap.IsCell p.2 (some u)) (rv : Vals vs us) (rc : Vals cvs cus) (hl : vs.length = ps.length) (hlc : cvs.length = caps.length)
    (hns : h₁.Ns s.heap.objs.size fun y => (ps.zip us).reverse.lookup y) (kp : ∀ b o, s.heap.get? b = some o → h₁.get? b = some o) :
    Inv (clCx P w K mg base (ps ++ caps) qual scope cl f c' A outer s H E) [] ((vs ++ cvs).map some) H { s with heap := h₁, toks := tk } := by
  have ndc : (cl.map (·.1)).Nodup := by rw [hcl]; exact (List.nodup_append.mp L.nd).2.1
  have ndp : ps.Nodup := (List.nodup_append.mp L.nd).1
  have at_ : ∀ {y c}, cl.lookup y = some c → ∃ i, cl[i]? = some (y, c) := fun {y c} e => List.getElem?_of_mem (PySem.mem_of_lookup e)
  have noA : ∀ b : Addr, b ∉ (clCx P w K mg base (ps ++ caps) qual scope cl f c' A outer s H E).ex := fun b z => absurd (show b ∈ ([] : List Addr) from z) (by simp)
  refine ⟨⟨e0.mod, L.kind, rfl, rfl, Nat.le_refl _, hi, fun y hy => ?_, fun y c z _ => ?_, fun _ => hd, Around.frames_deeper e0.frames, .inr ⟨rfl, rfl⟩, fun b z => absurd z (noA b), e0.bs, e0.bsz, fun b _ _ => noA b,
      fun b z => absurd z (noA b), e0.funs, e0.frf⟩,
    rfl, e0.bare, Un.kept kp, ⟨_, hns, fun i y v e1 e2 e3 => ?_⟩, fun y c e => ?_, e0.hok.fresh (Nat.le_refl _), fun y c e => ?_, fun q hq => absurd (show q ∈ ([] : List (Addr × Obj)) ++ [] from hq) (by simp), e0.hok.kept kp, ?_⟩
  · have hy : scope.names.lookup y = some .cell ∨ scope.names.lookup y = some .free := hy
    rcases hy with hy | hy
    · exact absurd rfl (L.noc _ (PySem.mem_of_lookup hy))
    · have m := L.all _ (PySem.mem_of_lookup hy) rfl
      rw [← hcl] at m
      obtain ⟨⟨y', c⟩, hm, rfl⟩ := List.mem_map.mp m
      exact mem_lookup hm
  · have z : false = true := z
    cases z
  · have e1 : (ps ++ caps)[i]? = some y := e1
    have e2 : (vs ++ cvs)[i]? = some v := by
      rw [List.getElem?_map, Option.map_eq_some_iff] at e2
      obtain ⟨v', q1, q2⟩ := e2
      cases q2
      exact q1
    by_cases hlt : i < ps.length
    · rw [List.getElem?_append_left hlt] at e1
      rw [List.getElem?_append_left (by omega)] at e2
      obtain ⟨u, q1, q2⟩ := rv.get e2
      exact ⟨u, q2, .inl ⟨L.par y (List.mem_of_getElem? e1), zip_look (by rw [← rv.length]; exact hl) ndp e1 q1⟩⟩
    · rw [List.getElem?_append_right (by omega)] at e1
      rw [List.getElem?_append_right (by omega), hl] at e2
      obtain ⟨u, q1, q2⟩ := rc.get e2
      rw [← hcl, List.getElem?_map, Option.map_eq_some_iff] at e1
      obtain ⟨⟨y', c⟩, p1, rfl⟩ := e1
      obtain ⟨_, u', t1, t2⟩ := hc _ _ p1
      rw [q1] at t1
      cases t1
      refine ⟨u, q2, .inr ⟨.inr (L.cap _ ?_), c, look_of ndc p1, t2.keeps kp⟩⟩
      rw [← hcl]
      exact List.mem_map.mpr ⟨_, List.mem_of_getElem? p1, rfl⟩
  · obtain ⟨i, q⟩ := at_ e
    obtain ⟨_, u, _, t⟩ := hc i _ q
    exact ⟨_, t.keeps kp⟩
  · obtain ⟨i, q⟩ := at_ e
    exact (hc i _ q).1
  · show ((vs ++ cvs).map some).length = (ps ++ caps).length
    simp [hl, hlc]
end
/-- the default on the heap -/
inductive DfH (h : Heap) : Option Int → Value → List Value → Prop
  | no : DfH h none .none []
  | int {td : Addr} {k : Int} {t : Tok} {o : Obj} {m : Nat} (e : h.get? td = some o) (d : o.data = .seq #[.int k t] m) : DfH h (some k) (.ref td) [.int k t]
def dflD : Option Int → List D
  | none => []
  | some k => [.int k]
def dflV : Option Int → List V
  | none => []
  | some k => [.int k]
theorem dfl_rp {C : Cst} {r : List Addr} {W : Addr → Prop} {H : Hp} : ∀ o : Option Int, RpL C r W H (dflD o) (dflV o)
  | none => .nil
  | some k => .cons (.int k) .nil
theorem DfR.onHeap {P : Program} {w : World} {r : List Addr} {W : Addr → Prop} {H : Hp} {h : Heap} {o : Option Int} {dV : Value} (q : DfR r W H o dV) (x : HOk P w H h) : ∃ du, DfH h o dV du ∧ Vals (dflV o) du := by
  cases q with
  | no => exact ⟨[], .no, .nil⟩
  | int e hr hw =>
    obtain ⟨_, its, rv, o, h1, _, m, h2⟩ := x _ _ e
    cases rv with
    | cons r1 r2 =>
      cases r2
      obtain ⟨t, rfl⟩ := r1
      exact ⟨_, .int h1 h2, .cons ⟨t, rfl⟩ .nil⟩
/-- what a lambda does -/
structure LamOk (P : Program) (w : World) (base : Heap) (C : Cst) (k n : Nat) (ps : List Str) (m : ME) : Prop where
  sc : LamSc (C.L n).scope ps (C.L n).caps
  bind : ∀ (cl : List (Str × Addr)) (pm cv : Value) (ct : Value × Value) (dV : Value) (us du : List Value) (s : Shared), DfH s.heap (C.L n).dfl dV du → (us ++ du).length = ps.length → BindsTo s (lamFn (C.L n) cl pm cv ct dV) ⟨us, []⟩ (ps.zip (us ++ du))
  body : ∀ (A : Around) (outer : List Env) (s : Shared) (H : Hp) (E : XK) (f c' : Addr) (cl : List (Str × Addr)), RoomG k (A.deeper (clEnv (C.L n).qual (C.L n).scope cl s.heap.objs.size f c')) →
    PE (clCx P w C.K C.mg base (ps ++ (C.L n).caps) (C.L n).qual (C.L n).scope cl f c' A outer s H E) (C.L n).body (RE C (fun cls d _ H' => E cls d H') m)
def mLam (n : Nat) (df : Option Int) (m : ME) : List D → List D → G → R D := fun cs ds g => if (ds ++ dflD df).length = n ∧ D.ncs cs = true ∧ D.ncs ds = true then m ((ds ++ dflD df ++ cs).map Slot.val) g else .stuck
theorem sls_vals {C : Cst} {r : List Addr} {W : Addr → Prop} {H : Hp} : ∀ {ds : List D} {vs : List V}, RpL C r W H ds vs → Sls C r W H (ds.map Slot.val) (ds.map fun _ => none) (vs.map some)
  | _, _, .nil => .nil
  | _, _, .cons h t => .cons (.val h) (sls_vals t)
theorem no_own {ds : List D} {a : Addr} : some a ∉ ds.map (fun _ => (none : Option Addr)) := fun z => by
  obtain ⟨_, _, e⟩ := List.mem_map.mp z
  cases e
theorem lam_run {P : Program} {w : World} {base : Heap} {C : Cst} {k n : Nat} {ps : List Str} {m : ME} {A : Around} {outer : List Env} {s : Shared} {H : Hp} {W : Addr → Prop} {g : G} {r : List Addr} {cs ds : List D} {f : Addr} {vs : List V} {us : List Value} {Q : VK} {E : XK}
    (L : LamOk P w base C k n ps m) (hr : RoomG (k + 1) A) (e0 : Env0 P w C.K C.mg base A outer s H) (b : Bs C W g r H) (hclo : Rp C r W H (.clo n cs) (.ref f)) (ha : RpL C r W H ds vs) (rv : Vals vs us)
    (h : Post C (fun cls d _ H' => E cls d H') W r [] H (RlE C W) Q (mLam ps.length (C.L n).dfl m cs ds g)) : codeAny (model P w) A (.call (.ref f) ⟨us, []⟩) (CR (L2.CX P w) outer P w H s Q E) s := by
  unfold mLam at h
  split at h
  · rename_i hh
    obtain ⟨hl, n1, n2⟩ := hh
    cases hclo with
    | clo hdf hf hfr hfw hc hcr hcw hcl hlu hi ho hv q =>
      rename_i c pm dV ct cl cus cvs
      obtain ⟨du, hdu, rdu⟩ := hdf.onHeap e0.hok
      obtain ⟨as, eas⟩ : ∃ as : List Addr, as = cl.map (·.2) := ⟨_, rfl⟩
      have pk : PinsOk H as := fun a ha => by
        rw [eas] at ha
        obtain ⟨p, hp, rfl⟩ := List.mem_map.mp ha
        obtain ⟨i, hi⟩ := List.getElem?_of_mem hp
        obtain ⟨o, u, q1, _⟩ := ho i p hi
        exact ⟨o, q1⟩
      have nrw : ∀ a ∈ as, a ∉ r ∧ ¬ W a := fun a ha => by
        rw [eas] at ha
        obtain ⟨p, hp, rfl⟩ := List.mem_map.mp ha
        obtain ⟨i, hi⟩ := List.getElem?_of_mem hp
        obtain ⟨o, u, q1, q2, q3, _⟩ := ho i p hi
        exact ⟨q2, q3⟩
      refine codeAny_mono ?_ fun r s' hr' => cr_down (Q' := fun v H' => (∀ a ∈ as, H' a = none) → Q v (rep as H H')) (E' := fun c d H' => (∀ a ∈ as, H' a = none) → E c d (rep as H H')) pk e0 (fun v H' z q => q z) (fun c d H' z q => q z) hr'
      have e0' := env0_unp pk e0
      have of1 := (e0.hok f _ hf).1
      obtain ⟨⟨oc, fs, t, hoc, hdc, hvc⟩, _, _⟩ := e0.hok c _ hc
      have bk : ∀ b o, base.get? b = some o → s.heap.get? b = some o := fun b o e => (e0.bs b o e).1
      have lim : s.heap.NoLimit := e0.mod.nolimit.keeps bk
      have rv' : Vals (vs ++ dflV (C.L n).dfl) (us ++ du) := rv.append rdu
      have hl' : (vs ++ dflV (C.L n).dfl).length = ps.length := by rw [← hl, List.length_append, List.length_append, ha.length, (dfl_rp (C := C) (r := r) (W := W) (H := H) _).length]
      refine PySem.W.kla_callFunE hr.depth of1 rfl L.sc.co L.sc.gen rfl ⟨c, oc, fs, t, rfl, hoc, hdc, hvc⟩ ?_
      refine L.bind cl pm (.ref c) ct dV us du s hdu (by rw [← rv'.length]; exact hl') _ _ _ _ ?_
      refine (wpAny_newFunctionEnv L.sc.noc (fun y hy => L.sc.par _ (List.of_mem_zip hy).1) (fun h₁ hns hsb => ⟨lim.fresh _ hsb, ?_⟩) L.sc.kind)
      show codeAny _ _ (.expr (C.L n).body (clEnv (C.L n).qual (C.L n).scope cl s.heap.objs.size f c)) _ _
      have kp : ∀ b o, s.heap.get? b = some o → h₁.get? b = some o := fun b o e => hsb.extBut b o (Nat.ne_of_lt (Heap.lt_size e)) (Heap.get?_push_of_some _ e)
      have J : Inv (clCx P w C.K C.mg base (ps ++ (C.L n).caps) (C.L n).qual (C.L n).scope cl f c A outer s (unp as H) (fun c d H' => (∀ a ∈ as, H' a = none) → E c d (rep as H H'))) [] ((vs ++ dflV (C.L n).dfl ++ cvs).map some) (unp as H) { s with heap := h₁, toks := s.toks + (ps.zip (us ++ du)).length } := by
        refine cl_start L.sc e0' hr.hd hcl hi (fun i p e => ?_) rv' hv hl' ?_ hns kp
        · obtain ⟨o, u, q1, q2, q3, q4, q5⟩ := ho i p e
          exact ⟨unp_in (by rw [eas]; exact List.mem_map.mpr ⟨p, List.mem_of_getElem? e, rfl⟩), u, q4, o, (e0.hok _ _ q1).1, q5⟩
        · rw [← hcl, List.length_map, ← hlu]
          exact hv.length
      refine PySem.W.kla_codeExpr (wpAny_mono ((L.body A outer s (unp as H) (fun c d H' => (∀ a ∈ as, H' a = none) → E c d (rep as H H')) f c cl (hr.deeper _)).run [] _ _ (unp as H) (fun v H' => (∀ a ∈ as, H' a = none) → Q v (rep as H H')) J ?_) (fun v s' hq => ?_) fun e s' hq => hq)
      · have all : RpL C r W (unp as H) (ds ++ dflD (C.L n).dfl ++ cs) (vs ++ dflV (C.L n).dfl ++ cvs) := ((RpL.unp pk n2 ha).append (dfl_rp _)).append (RpL.unp pk n1 q)
        refine ⟨W, _, _, g, r, ⟨b.unpB pk nrw, sls_vals all, fun a z => absurd z no_own, fun i j a z _ => absurd (List.mem_of_getElem? z) no_own⟩, ?_⟩
        revert h
        cases m ((ds ++ dflD (C.L n).dfl ++ cs).map Slot.val) g with
        | stuck => exact fun h => h
        | ok d g' => exact fun h v H' r' b' s' q' z => h v (rep as H H') r' (b'.grow (rep_ext z)) (s'.repS b' pk z) (q'.step (step_grow (rep_ext z)))
        | exc c fs g' => exact fun h cl' dx H' r' b' s' q' z => h cl' dx (rep as H H') r' (b'.grow (rep_ext z)) (s'.repS b' pk z) (q'.step (step_grow (rep_ext z)))
      · obtain ⟨w', H', J', rv', q'⟩ := hq
        exact ⟨w', H', J'.os, J'.bare, J'.base, J'.hok, rv', q'⟩
  · exact h.elim
/-- how the arguments of a lambda with one default bind -/
theorem bind_dfl {s : Shared} {fd : FuncData} {x : Str} {T : Addr} {v : Value} {o : Obj} {m : Nat} (h : ∃ k, bindArgs fd ⟨[], []⟩ = seqItems? (.ref T) >>= k ∧ ∀ v, k (some #[v]) = pure [(x, v)]) (e : s.heap.get? T = some o) (d : o.data = .seq #[v] m) : BindsTo s fd ⟨[], []⟩ [(x, v)] := fun M A E Q q => by
  obtain ⟨k, h1, h2⟩ := h
  rw [h1]
  refine wpAny_bind (wpAny_seqItems e d ?_)
  rw [h2]
  exact wpAny_pure q
end GT

/-! GtK: the call of a lambda by a name; a lambda made and handed to a def. -/
namespace GT
open PySem PySem.Spec PyProof.Rows L2 RZ
abbrev LFT := Nat → List D → List D → G → R D
/-- LF tells what the lambdas do -/
def LamAll (P : Program) (w : World) (base : Heap) (C : Cst) (k : Nat) (LF : LFT) : Prop :=
  ∀ n, (∃ ps m, LamOk P w base C k n ps m ∧ LF n = mLam ps.length (C.L n).dfl m) ∨ ∀ cs ds g, LF n cs ds g = .stuck
def mCallV (LF : LFT) (i : Nat) (ms : MA) : ME := fun env g => match env[i]? with
  | some (.val (.clo n cs)) => (ms env g).bind fun ds g1 => LF n cs ds g1
  | _ => .stuck
section
variable {X : Cx} {C : Cst} {Wx : WX}
theorem fn_at {H : Hp} {r : List Addr} {W : Addr → Prop} {n : Nat} {cs : List D} {f : Addr} {h : Heap} {P : Program} {w : World} (x : HOk P w H h) (q : Rp C r W H (.clo n cs) (.ref f)) : PySem.W.FnAt f h := by
  cases q with
  | clo _ hf => exact ⟨_, _, _, _, (x f _ hf).1⟩
theorem clo_ref {H : Hp} {r : List Addr} {W : Addr → Prop} {n : Nat} {cs : List D} {v : V} (q : Rp C r W H (.clo n cs) v) : ∃ f, v = .ref f := by
  cases q with
  | clo hf => exact ⟨_, rfl⟩
theorem run_clo {k : Nat} {LF : LFT} {pins : List (Addr × Obj)} {σ : L2.St} {H : Hp} {s : Shared} {Q : VK} {W : Addr → Prop} {g : G} {r : List Addr} {n : Nat} {cs ds : List D} {f : Addr} {vs : List V} {us : List Value} (LA : LamAll X.prog X.w X.base C k LF) (hK : X.K = C.K) (hmg : X.mg = C.mg) (hr : RoomG (k + 1) X.A) (tk : Takes X Wx)
    (I : Inv X pins σ H s) (b : Bs C W g r H) (hc : Rp C r W H (.clo n cs) (.ref f)) (ha : RpL C r W H ds vs) (rv : Vals vs us) (h : Post C Wx W r σ H (RlE C W) Q (LF n cs ds g)) : wpAny (model X.prog X.w) X.A (call (.ref f) us) (EP X pins σ Q) X.xe s := by
  rcases LA n with ⟨ps, m, L, e⟩ | e
  · rw [e] at h
    have e0 := I.env0
    rw [hK, hmg] at e0
    refine wpAny_call (codeAny_mono (lam_run (E := WE Wx σ) L hr e0 b hc ha rv (h.wish fun _ _ _ z => z)) fun r s' hq => ?_)
    cases r with
    | error e => exact passAt tk σ pins H s e s' I hq
    | ok fl =>
      cases fl with
      | ret u => exact I.after hq
      | next => exact False.elim hq
      | brk => exact False.elim hq
      | cont => exact False.elim hq
  · rw [e] at h
    exact h.elim
theorem se_callv {k : Nat} {LF : LFT} (i : Nat) {a : Str} {e : Expr} {es : List Expr} {p1 p2 : Pos} {ms : MA} (LA : LamAll X.prog X.w X.base C k LF) (hr : RoomG (k + 1) X.A) (tk : Takes X Wx) (ha : PA X (e :: es) (RA C Wx ms)) (hK : X.K = C.K := by rfl) (hmg : X.mg = C.mg := by rfl)
    (hN : X.N[i]? = some a := by rfl) (hv : Vis X.env.scope a := by first | exact Or.inl rfl | exact Or.inr (Or.inl rfl) | exact Or.inr (Or.inr rfl)) (hd : (a == ("__debug__" : Str)) = false := by decide) (hcd : (a == ("__classdict__" : Str)) = false := by decide)
    (he : starEach (e :: es) X.env = (false, eval e X.env) :: starEach es X.env := by rfl) (hpl : (backTo p2 (starEach es X.env)).any (·.1) = false := by rfl) :
    PE X (.Call (.Name a p1) (e :: es) [] p2) (RE C Wx (mCallV LF i ms)) := by
  refine ⟨fun pins s σ H Q I h => ?_⟩
  obtain ⟨W, env, oas, g, r, S, P⟩ := h
  unfold mCallV at P
  split at P
  · rename_i n cs hn
    obtain ⟨o, v, h1, h2, h3⟩ := S.sl.get hn
    cases h3 with
    | val hc =>
      obtain ⟨f, rfl⟩ := clo_ref hc
      refine wpAny_Call_Name_kw (thn ((pe_var (pos := p1) hN hv hd hcd).run pins s σ H (fun v H1 => v = .ref f ∧ H1 = H) I ⟨.ref f, h2, rfl, rfl⟩) fun u s1 ⟨v, H1, I1, r1, q1⟩ => ?_)
      obtain ⟨rfl, rfl⟩ := q1
      obtain rfl : u = Value.ref f := r1
      refine PySem.W.callWith_F (fn_at I1.hok hc) (thn (ha.run p2 pins s1 σ _ _ I1 ⟨W, env, oas, g, r, S, Post.split P⟩) fun us s2 ⟨vs, H2, I2, rv, ds, g1, r1, b1, st1, p1, q1⟩ => ?_) he hpl
      have hc2 := hc.step st1
      exact ⟨fn_at I2.hok hc2, run_clo LA hK hmg hr tk I2 b1 hc2 p1 rv q1⟩
  · exact P.elim
theorem se_callv0 {k : Nat} {LF : LFT} (i : Nat) {a : Str} {p1 p2 : Pos} (LA : LamAll X.prog X.w X.base C k LF) (hr : RoomG (k + 1) X.A) (tk : Takes X Wx) (hK : X.K = C.K := by rfl) (hmg : X.mg = C.mg := by rfl)
    (hN : X.N[i]? = some a := by rfl) (hv : Vis X.env.scope a := by first | exact Or.inl rfl | exact Or.inr (Or.inl rfl) | exact Or.inr (Or.inr rfl)) (hd : (a == ("__debug__" : Str)) = false := by decide) (hcd : (a == ("__classdict__" : Str)) = false := by decide) :
    PE X (.Call (.Name a p1) [] [] p2) (RE C Wx (mCallV LF i mNil)) := by
  refine ⟨fun pins s σ H Q I h => ?_⟩
  obtain ⟨W, env, oas, g, r, S, P⟩ := h
  unfold mCallV at P
  split at P
  · rename_i n cs hn
    obtain ⟨o, v, h1, h2, h3⟩ := S.sl.get hn
    cases h3 with
    | val hc =>
      obtain ⟨f, rfl⟩ := clo_ref hc
      refine wpAny_Call_Name_kw (thn ((pe_var (pos := p1) hN hv hd hcd).run pins s σ H (fun v H1 => v = .ref f ∧ H1 = H) I ⟨.ref f, h2, rfl, rfl⟩) fun u s1 ⟨v, H1, I1, r1, q1⟩ => ?_)
      obtain ⟨rfl, rfl⟩ := q1
      obtain rfl : u = Value.ref f := r1
      exact PySem.W.callWith_F0 (fn_at I1.hok hc) (run_clo LA hK hmg hr tk I1 S.bs hc .nil .nil P)
  · exact P.elim
/-! ### a lambda is made -/
/-- what stays and is new when a lambda is made -/
structure Mk (H H1 : Hp) : Prop where
  ext : LamX.ExtN H H1
  tb : ∀ b ps, H b = some (.tbl ps) → ∃ ps', H1 b = some (.tbl ps')
theorem Mk.dom {H H1 : Hp} (m : Mk H H1) : ∀ a, H1 a = none → H a = none := fun a e => by
  cases q : H a with
  | none => rfl
  | some o =>
    by_cases t : ∃ ps, o = .tbl ps
    · obtain ⟨ps, rfl⟩ := t
      obtain ⟨ps', z⟩ := m.tb a ps q
      rw [e] at z; cases z
    · have z := m.ext a o q fun ps z => t ⟨ps, z⟩
      rw [e] at z; cases z
theorem Mk.step {H H1 : Hp} {r : List Addr} (m : Mk H H1) : Step r r H H1 := ⟨fun _ _ h => h, fun _ h => .inl h, fun a o e _ no => m.ext a o e no, m.dom⟩
theorem GOs.notb {r l : List Addr} {W : Addr → Prop} {H : Hp} : ∀ {g : G} {l : List Addr} {a : Addr}, GOs C r W H g l → a ∈ l → ∃ o, H a = some o ∧ ∀ ps, o ≠ .tbl ps
  | _, _, _, .nil, h => by cases h
  | _, _, a, .cons h t, q => by
    rcases List.mem_cons.mp q with e | e
    · subst e
      cases h with
      | dct h => exact ⟨_, h, fun _ z => by cases z⟩
      | ins h => exact ⟨_, h, fun _ z => by cases z⟩
      | lst h => exact ⟨_, h, fun _ z => by cases z⟩
      | dz h => obtain ⟨o, h⟩ := h; exact ⟨_, h, fun _ z => by cases z⟩
    · exact GOs.notb (l := l) t e
theorem Mk.bs {H H1 : Hp} {r : List Addr} {W : Addr → Prop} {g : G} (m : Mk H H1) (b : Bs C W g r H) (ht : LamX.Tabs C.T H1) : Bs C W g r H1 where
  tabs := ht
  nd := b.nd
  rtr := fun a ha z => b.rtr a ha (m.dom a z)
  wtr := fun a ha z => b.wtr a ha (m.dom a z)
  dis := b.dis
  wnt := fun a ha xs n z => by
    cases q : H a with
    | none => exact b.wtr a ha q
    | some o =>
      by_cases t : ∃ ps, o = .tbl ps
      · obtain ⟨ps, rfl⟩ := t
        obtain ⟨ps', y⟩ := m.tb a ps q
        rw [z] at y; cases y; cases n
      · have y := m.ext a o q fun ps z => t ⟨ps, z⟩
        rw [z] at y
        cases y
        exact b.wnt a ha _ n q
  objs := b.objs.keep m.step.kp fun a ha => by
    obtain ⟨o, e, no⟩ := GOs.notb (l := r) b.objs ha
    rw [e]; exact m.ext a o e no
  gn := b.gn
/-- a lambda as a thing in our hands: its function object is pinned -/
def PreC (C : Cst) (X : Cx) (n : Nat) (r : List Addr) (W : Addr → Prop) (H : Hp) (f : Addr) : Prop :=
  ∃ (c : Addr) (pm : Value) (ct : Value × Value) (dV : Value), DfR r W H (C.L n).dfl dV ∧ H f = some (PinO f (lamO (C.L n) (cloFrom X.env.cells (C.L n).scope.names []) pm c ct dV)) ∧ f ∉ r ∧ ¬ W f ∧ H c = some (LamX.CodeO c (C.L n).qual) ∧ c ∉ r ∧ ¬ W c
theorem PreC.step {n : Nat} {r r' : List Addr} {W : Addr → Prop} {H H' : Hp} {f : Addr} (s : Step r r' H H') (h : PreC C X n r W H f) : PreC C X n r' W H' f := by
  obtain ⟨c, pm, ct, dV, h0, h1, h2, h3, h4, h5, h6⟩ := h
  have nr : ∀ {a : Addr} {o : HO}, H a = some o → a ∉ r → a ∉ r' := fun {a o} h hr z => by
    rcases s.fresh a z with q | q
    · exact hr q
    · rw [h] at q; cases q
  exact ⟨c, pm, ct, dV, h0.keep s.kp, s.ext _ _ h1 h2 pin_ne, nr h1 h2, h3, s.ext _ _ h4 h5 LamX.codeO_ne, nr h4 h5, h6⟩
/-- the default as it stands in the text -/
inductive DfE (env : Env) (params : Arguments) : Option Int → Prop
  | no (h : defaultsOf params env = ([], [])) : DfE env params none
  | int {k : Int} {j : Nat} {p : Pos} (h : defaultsOf params env = ([eval (.Constant (.int k) j p) env], [])) : DfE env params (some k)
/-- the default newly made -/
inductive DfN (H H1 : Hp) : Option Int → Value → Prop
  | no : DfN H H1 none .none
  | int {td : Addr} {k : Int} (h0 : H td = none) (h1 : H1 td = some (.tup [.int k])) : DfN H H1 (some k) (.ref td)
/-- what the making asks -/
structure LamAt (X : Cx) (C : Cst) (n : Nat) (c P : Addr) (params : Arguments) (body : Expr) (scope : Scope) : Prop where
  tb : LamX.TabB X.base X.mg c P
  code : X.env.code = .ref c
  mem : (P, X.env.qual ++ "<lambda>") ∈ C.T
  uni : ∀ p ∈ C.T, p.1 = P → p.2 = X.env.qual ++ "<lambda>"
  q : (C.L n).qual = X.env.qual ++ "<lambda>"
  pa : (C.L n).params = params
  bo : (C.L n).body = body
  scp : (C.L n).scope = scope
  cap : (C.L n).caps = freeN scope
  has : ∀ y ∈ scope.names, y.2 = .free → X.env.scope.names.lookup y.1 = some .cell ∨ X.env.scope.names.lookup y.1 = some .free
  dfl : DfE X.env params (C.L n).dfl
  kwo : params.kwonlyargs = []
  fn : ∀ x, X.fn x = true
/-- the making, its default there -/
theorem lam_tail {n : Nat} {c P : Addr} {params : Arguments} {body : Expr} {scope : Scope} {pos : Pos} {dV : Value} {pins : List (Addr × Obj)} {s : Shared} {σ : L2.St} {H : Hp} {Q : VK} (L : LamAt X C n c P params body scope) (I : Inv X pins σ H s) (hT : LamX.Tabs C.T H)
    (h : ∀ (f c' : Addr) (pm : Value) (ct : Value × Value) (H1 : Hp), Mk H H1 → LamX.Tabs C.T H1 → H f = none → H1 f = some (PinO f (lamO (C.L n) (cloFrom X.env.cells (C.L n).scope.names []) pm c' ct dV)) →
      H1 c' = some (LamX.CodeO c' (C.L n).qual) → ((H c' = none) ∨ ∃ o, H c' = some o ∧ ∀ xs, o ≠ .tbl xs) → Q (.ref f) H1) :
    wpAny (model X.prog X.w) X.A (makeTail "<lambda>" (X.env.qual ++ "<lambda>") params (.expr body) scope X.env dV .none none pos pos.line) (EP X pins σ Q) X.xe s := by
  have hfree : ∀ y ∈ scope.names, y.2 = .free → ∃ c, X.env.cells.lookup y.1 = some c := fun y hy e => by
    rcases L.has y hy e with k | k
    · exact I.ok.has _ (.inl k)
    · exact I.ok.has _ (.inr k)
  obtain ⟨ps, hP, ht, ha⟩ := hT _ L.mem
  have bP : s.heap.BuiltinsAt X.mg P := L.tb.bm.keeps I.bk
  have hP' : s.heap.get? P = some { cls := .none, data := .fields ps } := I.hok P _ hP
  have eO : ∀ (c' : Addr) (ct doc : Value), PySem.W.kdv_obj "<lambda>" (X.env.qual ++ "<lambda>") params (.expr body) scope (cloFrom X.env.cells scope.names []) dV doc ((X.mg "__name__").getD .none) c' ct = lamO (C.L n) (cloFrom X.env.cells (C.L n).scope.names []) ((X.mg "__name__").getD .none) c' (ct, doc) dV := fun c' ct doc => by
    unfold lamO lamFn
    rw [L.q, L.pa, L.bo, L.scp]
  cases hc : codeAmong pos ps.toList with
  | none =>
    refine PySem.W.kdv_makeTail (mg := X.mg) (c := c) (P := P) (ps := ps) (closure_ok hfree) I.ok.glob (I.mod.glob.keeps I.bk) L.code (L.tb.code.keeps I.bk) hP' ht hc L.tb.gP bP fun c' ctv doc h' tk hx hge hlt hrec htb => ?_
    rw [eO]
    obtain ⟨c2, oc, vs, t, e2, hoc, hd, hv⟩ := hrec
    cases e2
    have hsz : s.heap.objs.size ≤ h'.objs.size := Nat.le_trans hge (Nat.le_of_lt hlt)
    have nC : H c' = none := I.hok.fresh hge
    have nF : H h'.objs.size = none := I.hok.fresh hsz
    have I1 := LamX.inv_table (t' := tk) (more := #[rawInt pos.line, rawInt pos.col, .ref c']) (h' := h') (q := X.env.qual ++ "<lambda>") I hP (fun b o hb e => hx b o hb e) htb hge ⟨oc, vs, t, hoc, hd, hv⟩
    generalize hO : lamO (C.L n) (cloFrom X.env.cells (C.L n).scope.names []) ((X.mg "__name__").getD .none) c' (ctv, doc) dV = O
    have new : (h'.push O).get? h'.objs.size = some O := Heap.get?_push_size _ (by rw [← hO]; rfl)
    have I2 := I1.laid (t' := tk) (a := h'.objs.size) (o := PinO h'.objs.size O) (h' := h'.push O) (fun b u e => Heap.get?_push_of_some _ e) (Nat.le_refl _) ⟨new, _, new⟩
    have n1 : c' ≠ h'.objs.size := Nat.ne_of_lt hlt
    have n2 : P ≠ h'.objs.size := Nat.ne_of_lt (Nat.lt_of_lt_of_le (Heap.lt_size hP') hsz)
    have nPc : P ≠ c' := ne_of_none hP nC
    have eL : (ps ++ #[rawInt pos.line, rawInt pos.col, .ref c']).toList = ps.toList ++ [rawInt pos.line, rawInt pos.col, .ref c'] := by simp
    have hE : LamX.ExtN H (upd (upd (upd H P (.tbl (ps ++ #[rawInt pos.line, rawInt pos.col, .ref c']))) c' (LamX.CodeO c' (X.env.qual ++ "<lambda>"))) h'.objs.size (PinO h'.objs.size O)) := fun b o e n => by
      rw [upd_ne (ne_of_none e nF), upd_ne (ne_of_none e nC), upd_ne (fun z => n ps (Option.some.inj (e.symm.trans (by rw [z]; exact hP))))]
      exact e
    refine ⟨.ref h'.objs.size, _, I2, rfl, h h'.objs.size c' _ (ctv, doc) _ ⟨hE, fun b qs e => ?_⟩ (fun p hp => ?_) nF (by rw [hO]; exact upd_same) (by rw [L.q, upd_ne n1, upd_same]) (.inl nC)⟩
    · by_cases hb : b = P
      · subst hb
        exact ⟨_, by rw [upd_ne n2, upd_ne nPc, upd_same]⟩
      · exact ⟨qs, by rw [upd_ne (ne_of_none e nF), upd_ne (ne_of_none e nC), upd_ne hb]; exact e⟩
    · by_cases hb : p.1 = P
      · rw [L.uni p hp hb, hb]
        refine ⟨_, by rw [upd_ne n2, upd_ne nPc, upd_same], by rw [eL]; exact PySem.TriplesOk_snoc _ _ _ _ ht, fun p' cv hcv => ?_⟩
        rw [eL] at hcv
        rcases LamX.among_app _ ht hcv with z | z
        · obtain ⟨c0, e1, e2⟩ := ha p' cv z
          exact ⟨c0, e1, hE _ _ e2 LamX.codeO_ne⟩
        · exact ⟨c', z, by rw [upd_ne n1, upd_same]⟩
      · obtain ⟨ps', a1, a2, a3⟩ := hT p hp
        refine ⟨ps', by rw [upd_ne (ne_of_none a1 nF), upd_ne (ne_of_none a1 nC), upd_ne hb]; exact a1, a2, fun p' cv hcv => ?_⟩
        obtain ⟨c0, e1, e2⟩ := a3 p' cv hcv
        exact ⟨c0, e1, hE _ _ e2 LamX.codeO_ne⟩
  | some cv =>
    obtain ⟨c', e, hco⟩ := ha pos cv hc
    subst e
    refine PySem.W.kdv_makeTailHit (mg := X.mg) (c := c) (P := P) (ps := ps) (closure_ok hfree) I.ok.glob (I.mod.glob.keeps I.bk) L.code (L.tb.code.keeps I.bk) hP' ht hc bP fun ctv doc h' tk hx hsz => ?_
    rw [show ({ cls := .type "function", data := .func (PySem.W.kdv_fn "<lambda>" (X.env.qual ++ "<lambda>") params (.expr body) scope (cloFrom X.env.cells scope.names []) dV doc ((X.mg "__name__").getD .none) (.ref c') ctv) } : Obj) = _ from eO c' ctv doc]
    generalize hO : lamO (C.L n) (cloFrom X.env.cells (C.L n).scope.names []) ((X.mg "__name__").getD .none) c' (ctv, doc) dV = O
    have new : (h'.push O).get? h'.objs.size = some O := Heap.get?_push_size _ (by rw [← hO]; rfl)
    have nF : H h'.objs.size = none := I.hok.fresh hsz
    have I2 := I.laid (t' := tk) (a := h'.objs.size) (o := PinO h'.objs.size O) (h' := h'.push O) (fun b u e => Heap.get?_push_of_some _ (hx b u e)) hsz ⟨new, _, new⟩
    have hE : ∀ b o, H b = some o → upd H h'.objs.size (PinO h'.objs.size O) b = some o := fun b o e => by
      rw [upd_ne (ne_of_none e nF)]; exact e
    exact ⟨.ref h'.objs.size, _, I2, rfl, h h'.objs.size c' _ (ctv, doc) _ ⟨.of hE, fun b qs e => ⟨qs, hE b _ e⟩⟩ (hT.ext hE) nF (by rw [hO]; exact upd_same) (by rw [L.q]; exact hE _ _ hco) (.inr ⟨_, hco, LamX.codeO_ne⟩)⟩
theorem pe_lambda {n : Nat} {c P : Addr} {params : Arguments} {body : Expr} {scope : Scope} {pos : Pos} (L : LamAt X C n c P params body scope) :
    PE X (.Lambda params body scope pos) (fun σ H Q => LamX.Tabs C.T H ∧ ∀ (f c' : Addr) (pm : Value) (ct : Value × Value) (dV : Value) (H1 : Hp), Mk H H1 → LamX.Tabs C.T H1 → H f = none → DfN H H1 (C.L n).dfl dV → H1 f = some (PinO f (lamO (C.L n) (cloFrom X.env.cells (C.L n).scope.names []) pm c' ct dV)) →
      H1 c' = some (LamX.CodeO c' (C.L n).qual) → ((H c' = none) ∨ ∃ o, H c' = some o ∧ ∀ xs, o ≠ .tbl xs) → Q (.ref f) H1) := by
  refine ⟨fun pins s σ H Q I h => ?_⟩
  obtain ⟨hT, h⟩ := h
  have hd := L.dfl
  generalize hdf : (C.L n).dfl = df at hd h
  cases hd with
  | no e =>
    refine PySem.W.kla_eval e ?_
    rw [makeFunction_eq]
    simp only [List.zip_nil_right, List.filterMap_nil, List.isEmpty_nil, if_true, pure_bind]
    exact lam_tail L I hT fun f c' pm ct H1 m t n1 n2 n3 n4 => h f c' pm ct .none H1 m t n1 .no n2 n3 n4
  | @int k j p e =>
    rw [arm_eval_Lambda, e]
    show wpAny _ _ (do let dv ← evalAll [eval (.Constant (.int k) j p) X.env]; let kdv ← holding dv (evalAllOpt []); makeFunction "<lambda>" (X.env.qual ++ "<lambda>") params (.expr body) scope X.env dv kdv [] pos pos.line) _ _ _
    unfold evalAll evalAll evalAllOpt
    refine wpAny_bind (wpAny_bind (wpAny_Constant_int (wpAny_bind (wpAny_holding (wpAny_pure (wpAny_pure (wpAny_bind (wpAny_holding (wpAny_pure ?_)))))))))
    rw [makeFunction_eq]
    simp only [List.zip_nil_right, List.filterMap_nil, List.isEmpty_nil, List.isEmpty_cons, Bool.false_eq_true, if_false, if_true, pure_bind]
    refine wpAny_bind (wpAny_newTextTuple ?_)
    have nT : H s.heap.objs.size = none := I.hok.fresh (Nat.le_refl _)
    have I1 := (I.tok (s.toks + 1)).laid (t' := s.toks + 1) (a := s.heap.objs.size) (o := .tup [.int k]) (h' := s.heap.push { cls := .type "tuple", data := .seq #[.int k s.toks] }) (fun b u e => Heap.get?_push_of_some _ e) (Nat.le_refl _) ⟨by rw [sizeLine_eq]; show 1 ≤ _; decide, [.int k s.toks], .cons ⟨_, rfl⟩ .nil, _, Heap.get?_push_at rfl rfl, rfl, _, rfl⟩
    have gr : ∀ a o, H a = some o → upd H s.heap.objs.size (.tup [.int k]) a = some o := fun a o e => by rw [upd_ne (ne_of_none e nT)]; exact e
    refine lam_tail L I1 (hT.ext gr) fun f c' pm ct H1 m t n1 n2 n3 n4 => ?_
    have nf : f ≠ s.heap.objs.size := fun z => by rw [z, upd_same] at n1; cases n1
    rw [upd_ne nf] at n1
    refine h f c' pm ct _ H1 ⟨fun a o e no => m.ext a o (gr a o e) no, fun b ps e => m.tb b ps (gr b _ e)⟩ t n1 (.int nT (m.ext _ _ upd_same fun _ z => by cases z)) n2 n3 ?_
    by_cases hc : c' = s.heap.objs.size
    · exact .inl (by rw [hc]; exact nT)
    · rw [upd_ne hc] at n4
      exact n4
end
end GT

/-! GtL: a def is called with a lambda as its last argument. -/
namespace GT
open PySem PySem.Spec PyProof.Rows L2 RZ
def capsD : List Nat → Ev → Option (List D)
  | [], _ => some []
  | j :: js, env => match env[j]? with
    | some (.val d) => match capsD js env with
      | some ds => some (d :: ds)
      | none => none
    | _ => none
/-- no lambda gets out -/
def finC : R D → R D
  | .ok d g => if d.nc = true then .ok d g else .stuck
  | .exc c fs g => if D.ncs (fs.map (·.2)) = true then .exc c fs g else .stuck
  | .stuck => .stuck
def mLamCall (n nl : Nat) (js : List Nat) (F : List D → G → R D) (ms : MA) : ME := fun env g => (ms env g).bind fun ds g1 => match capsD js env with
  | some cs => if ds.length + 1 = n then finC (F (ds ++ [.clo nl cs]) g1) else .stuck
  | none => .stuck
def RlAl (C : Cst) (X : Cx) (nl : Nat) (W : Addr → Prop) : List Addr → Hp → List D → List V → Prop := fun r H ds vs => ∃ ws f, vs = ws ++ [.ref f] ∧ RpL C r W H ds ws ∧ PreC C X nl r W H f
def RAl (C : Cst) (X : Cx) (nl : Nat) (Wx : WX) (m : MA) : TA := fun σ H Q => ∃ W env oas g r, Sm C W env oas g r σ H ∧ Post C Wx W r σ H (RlAl C X nl W) Q (m env g)
section
variable {X : Cx} {C : Cst} {Wx : WX}
theorem GOs.noext {r : List Addr} {W : Addr → Prop} {H : Hp} : ∀ {g : G} {l : List Addr} {a : Addr} {φ : Heap → Prop}, GOs C r W H g l → a ∈ l → H a ≠ some (.ext φ)
  | _, _, _, _, .nil, h => by cases h
  | _, _, a, φ, .cons h t, q => fun z => by
    rcases List.mem_cons.mp q with e | e
    · subst e
      cases h with
      | dct h => rw [h] at z; cases z
      | ins h => rw [h] at z; cases z
      | lst h => rw [h] at z; cases z
      | dz h => obtain ⟨o, h⟩ := h; rw [h] at z; cases z
    · exact GOs.noext t e z
theorem sal_one {nl : Nat} {c P : Addr} {params : Arguments} {body : Expr} {scope : Scope} {pos : Pos} (L : LamAt X C nl c P params body scope) : PA X [.Lambda params body scope pos] (RAl C X nl Wx mNil) :=
  PAm (pa_cons (pe_lambda L) pa_nil) fun σ H Q h => by
    obtain ⟨W, env, oas, g, r, S, Po⟩ := h
    refine ⟨S.bs.tabs, fun f c' pm ct dV H1 mk ht nf hdn hf hc hc0 => ?_⟩
    have b1 := mk.bs S.bs ht
    have cr : c' ∉ r := fun z => GOs.noext b1.objs z hc
    have cw : ¬ W c' := fun z => b1.wnt c' z _ (.ext _) hc
    have hdr : DfR r W H1 (C.L nl).dfl dV := by
      generalize (C.L nl).dfl = df at hdn ⊢
      cases hdn with
      | no => exact .no
      | int h0 h1 => exact .int h1 (S.bs.r0 h0) (S.bs.w0 h0)
    exact Po [.ref f] H1 r b1 mk.step ⟨[], f, rfl, .nil, c', pm, ct, dV, hdr, hf, S.bs.r0 nf, S.bs.w0 nf, hc, cr, cw⟩
theorem sal_cons {nl : Nat} {e : Expr} {es : List Expr} {m : ME} {ms : MA} (ha : PE X e (RE C Wx m)) (hr : PA X es (RAl C X nl Wx ms)) (hs : starEach (e :: es) X.env = (false, eval e X.env) :: starEach es X.env := by rfl) : PA X (e :: es) (RAl C X nl Wx (mCons m ms)) :=
  PAm (pa_cons ha hr hs) fun σ H Q h => by
    obtain ⟨W, env, oas, g, r, S, P⟩ := h
    refine ⟨W, env, oas, g, r, S, Post.mono (Post.split P) fun v H1 ⟨d, g1, r1, b1, s1, p1, q1⟩ => ⟨W, env, oas, g1, r1, S.step s1 b1, Post.mono (Post.split q1) fun w H2 ⟨e, g2, r2, b2, s2, p2, q2⟩ => ?_⟩⟩
    obtain ⟨ws, f, rfl, p3, p4⟩ := p2
    exact Post.here (d := d :: e) (g := g2) q2 b2 ⟨v :: ws, f, rfl, .cons (p1.step s2) p3, p4⟩
theorem caps_get {pins : List (Addr × Obj)} {σ : L2.St} {H : Hp} {s : Shared} {W : Addr → Prop} {env : Ev} {oas : List (Option Addr)} {g : G} {r : List Addr} (I : Inv X pins σ H s) (S : Sm C W env oas g r σ H) :
    ∀ (cl : List (Str × Addr)) (js : List Nat) (cs : List D), (∀ p ∈ cl, X.env.cells.lookup p.1 = some p.2 ∧ (X.env.scope.names.lookup p.1 = some .cell ∨ X.env.scope.names.lookup p.1 = some .free)) → js.map (fun j => X.N[j]?) = cl.map (fun p => some p.1) → capsD js env = some cs →
      ∃ (us : List Value) (vs : List V), Vals vs us ∧ RpL C r W H cs vs ∧ us.length = cl.length ∧ ∀ (i : Nat) (p : Str × Addr), cl[i]? = some p → ∃ u, us[i]? = some u ∧ s.heap.IsCell p.2 (some u)
  | [], [], cs, _, _, e => by
    simp only [capsD] at e
    cases e
    exact ⟨[], [], .nil, .nil, rfl, fun i p h => by simp at h⟩
  | [], j :: js, _, _, hn, _ => by simp at hn
  | p :: cl, [], _, _, hn, _ => by simp at hn
  | p :: cl, j :: js, cs, hc, hn, e => by
    rw [List.map_cons, List.map_cons, List.cons.injEq] at hn
    unfold capsD at e
    split at e
    · rename_i d hd
      split at e
      · rename_i ds hds
        cases e
        obtain ⟨us, vs, r1, q1, l1, t1⟩ := caps_get I S cl js ds (fun p hp => hc p (List.mem_cons_of_mem _ hp)) hn.2 hds
        obtain ⟨o, v, h1, h2, h3⟩ := S.sl.get hd
        cases h3 with
        | val hv =>
          obtain ⟨k1, k2⟩ := hc p (List.mem_cons_self ..)
          obtain ⟨m, hns, hl⟩ := I.loc
          obtain ⟨u, rv, lk⟩ := hl j p.1 _ hn.1 h2 (k2.elim (fun k => .inr (.inl k)) fun k => .inr (.inr k))
          have cellu : s.heap.IsCell p.2 (some u) := by
            rcases lk with ⟨k, _⟩ | ⟨_, c, e, z⟩
            · have k : X.env.scope.names.lookup p.1 = some .local := k
              rcases k2 with k2 | k2 <;> rw [k2] at k <;> cases k
            · rw [k1] at e
              cases e
              exact z
          refine ⟨u :: us, _ :: vs, .cons rv r1, .cons hv q1, by simp [l1], fun i q hq => ?_⟩
          cases i with
          | zero => simp at hq; subst hq; exact ⟨u, rfl, cellu⟩
          | succ i =>
            obtain ⟨u', z1, z2⟩ := t1 i q (by simpa using hq)
            exact ⟨u', by simpa using z1, z2⟩
      · cases e
    · cases e
theorem se_lamcall {k n nl : Nat} {f c P : Addr} {fd : FuncData} {ps : List Str} {F : List D → G → R D} {x : Str} {e : Expr} {es : List Expr} {p pos : Pos} {ms : MA} {params : Arguments} {body : Expr} {scope : Scope} (js : List Nat) (Fo : FnG X.prog X.w X.K X.mg X.base (L2.CX X.prog X.w) k f fd ps (spOf C n F)) (hr : RoomG k X.A) (hm : X.mg x = some (.ref f)) (hk : PySem.W.keepIn X.K (.ref f) = true) (hb : Binds X.K fd ps []) (tk : Takes X Wx)
    (hg : Gl X x) (L : LamAt X C nl c P params body scope) (ha : PA X (e :: es) (RAl C X nl Wx ms)) (hjs : js.map (fun j => X.N[j]?) = (freeN scope).map some := by rfl) (hdb : (x == ("__debug__" : Str)) = false := by decide) (he : starEach (e :: es) X.env = (false, eval e X.env) :: starEach es X.env := by rfl) (hpl : (backTo pos (starEach es X.env)).any (·.1) = false := by rfl) :
    PE X (.Call (.Name x p) (e :: es) [] pos) (RE C Wx (mLamCall n nl js F ms)) := by
  refine ⟨fun pins s σ H Q I h => ?_⟩
  obtain ⟨W, env, oas, g, r, S, Po⟩ := h
  refine wpAny_Call_Name_kw (ld_glob I hg hm ?_ hdb)
  refine PySem.W.callWith_K (h₀ := X.base) I.ok.mod.kin hk (thn (ha.run pos pins s σ H _ I ⟨W, env, oas, g, r, S, Post.split Po⟩) fun us s2 ⟨vs, H2, I2, rvs, ds, g1, r1, b1, st1, p1, q1⟩ => ⟨I2.kIn, ?_⟩) he hpl
  obtain ⟨ws, ff, rfl, pw, pc⟩ := p1
  have S2 := S.step st1 b1
  dsimp only at q1
  split at q1
  · rename_i cs hcs
    split at q1
    · rename_i hlen
      obtain ⟨cl, ecl⟩ : ∃ cl, cl = cloFrom X.env.cells scope.names [] := ⟨_, rfl⟩
      obtain ⟨c', pm, ct, dV, hdr, hf, hfr, hfw, hc, hcr, hcw⟩ := pc
      rw [L.scp, ← ecl] at hf
      have hfree : ∀ y ∈ scope.names, y.2 = .free → ∃ c, X.env.cells.lookup y.1 = some c := fun y hy e => by
        rcases L.has y hy e with k | k
        · exact I.ok.has _ (.inl k)
        · exact I.ok.has _ (.inr k)
      have cm : ∀ q ∈ cl, X.env.cells.lookup q.1 = some q.2 ∧ (X.env.scope.names.lookup q.1 = some .cell ∨ X.env.scope.names.lookup q.1 = some .free) := fun ⟨y, a⟩ hq => by
        rw [ecl] at hq
        rcases cloFrom_mem hq with hm | ⟨h1, h2⟩
        · cases hm
        · obtain ⟨c1, hc1⟩ := hfree _ h1 rfl
          have hc1 : X.env.cells.lookup y = some c1 := hc1
          refine ⟨?_, L.has _ h1 rfl⟩
          show X.env.cells.lookup y = some a
          rw [h2, hc1]
          rfl
      have hcl : cl.map (·.1) = (C.L nl).caps := by rw [ecl, clo_names, L.cap]
      have hjs' : js.map (fun j => X.N[j]?) = cl.map (fun q => some q.1) := by
        rw [hjs, ← L.cap, ← hcl, List.map_map]
        rfl
      obtain ⟨cus, cvs, r2, q2, l2, t2⟩ := caps_get I2 S2 cl js cs cm hjs' hcs
      obtain ⟨as, eas⟩ : ∃ as : List Addr, as = cl.map (·.2) := ⟨_, rfl⟩
      have asH : ∀ a ∈ as, H2 a = none ∧ (∃ v, s2.heap.IsCell a v) ∧ a ≠ X.env.locals ∧ X.s_0.heap.objs.size ≤ a := fun a ha => by
        rw [eas] at ha
        obtain ⟨q, hq, rfl⟩ := List.mem_map.mp ha
        have k := (cm q hq).1
        exact ⟨I2.freeC _ _ k, I2.cell _ _ k, I2.cne _ _ k, I2.ok.cab _ _ (L.fn _) k⟩
      obtain ⟨Hq, eHq⟩ : ∃ Hq : Hp, Hq = fun a => if a ∈ as then (s2.heap.get? a).map (PinO a) else H2 a := ⟨_, rfl⟩
      have Hin : ∀ a ∈ as, Hq a = (s2.heap.get? a).map (PinO a) := fun a ha => by rw [eHq]; exact if_pos ha
      have Hout : ∀ a, a ∉ as → Hq a = H2 a := fun a ha => by rw [eHq]; exact if_neg ha
      have gt : ∀ a ∈ as, ∃ o, Hq a = some (PinO a o) ∧ s2.heap.get? a = some o := fun a ha => by
        obtain ⟨_, ⟨v, o, ho, _⟩, _⟩ := asH a ha
        exact ⟨o, by rw [Hin a ha, ho]; rfl, ho⟩
      have eun : unp as Hq = H2 := by
        funext a
        by_cases z : a ∈ as
        · rw [unp_in z, (asH a z).1]
        · rw [unp_out z, Hout a z]
      have pk : PinsOk Hq as := fun a ha => let ⟨o, e1, _⟩ := gt a ha; ⟨o, e1⟩
      have nf : ∀ a ∈ as, a ∉ frs X.stack := fun a ha z => by
        obtain ⟨_, _, n1, n2⟩ := asH a ha
        rcases List.mem_cons.mp (I2.stkSub a z) with e | e
        · exact n1 e
        · obtain ⟨_, o, ho, _⟩ := I2.ok.funs.mem e
          exact absurd (Nat.lt_of_lt_of_le (Heap.lt_size ho) n2) (Nat.lt_irrefl _)
      have nb : ∀ a ∈ as, X.base.get? a = none := fun a ha => Heap.get?_none_of_le (Nat.le_trans I2.ok.bsz (asH a ha).2.2.2)
      have e0 : Env0 X.prog X.w X.K X.mg X.base X.A X.stack s2 Hq := env0_pin (as := as) (by rw [eun]; exact I2.env0) gt nf nb
      have gr : ∀ a o, H2 a = some o → Hq a = some o := fun a o e => by
        rw [Hout a fun z => ?_]
        · exact e
        · rw [(asH a z).1] at e; cases e
      have bq := b1.grow gr
      have sg : Step r1 r1 H2 Hq := step_grow gr
      have hclo : Rp C r1 W Hq (.clo nl cs) (.ref ff) := by
        refine .clo (us := cus) (vs := cvs) (c := c') (pm := pm) (ct := ct) (cl := cl) (DfR.keep sg.kp hdr) (gr _ _ hf) hfr hfw (gr _ _ hc) hcr hcw hcl l2 (fun x y a h1 h2 => ?_) (fun i q hq => ?_) r2 (q2.step sg)
        · exact I2.ok.inj x y a (cm _ (PySem.mem_of_lookup h1)).1 (cm _ (PySem.mem_of_lookup h2)).1
        · obtain ⟨u, z1, o, z2, z3⟩ := t2 i q hq
          have hm : q.2 ∈ as := by rw [eas]; exact List.mem_map.mpr ⟨q, List.mem_of_getElem? hq, rfl⟩
          have hn := (asH _ hm).1
          exact ⟨o, u, by rw [Hin _ hm, z2]; rfl, b1.r0 hn, b1.w0 hn, z1, z3⟩
      have hsp : spOf C n F (ws ++ [.ref ff]) Hq (fun v H' => PinsOk H' as → Q v (unp as H')) (fun cls d H' => PinsOk H' as → WE Wx σ cls d (unp as H')) := by
        refine ⟨r1, W, g1, ds ++ [.clo nl cs], bq, (pw.step sg).append (.cons hclo .nil), by rw [List.length_append]; exact hlen, ?_⟩
        have out : ∀ {r' : List Addr} {H' : Hp}, Step r1 r' Hq H' → ∀ a ∈ as, a ∉ r' ∧ ¬ W a := fun {r' H'} st a ha => ⟨fun z => by
          rcases st.fresh a z with y | y
          · exact b1.rtr a y (asH a ha).1
          · exact pk.no y ha, b1.w0 (asH a ha).1⟩
        revert q1
        cases F (ds ++ [.clo nl cs]) g1 with
        | stuck => exact fun q1 => q1
        | ok d g' =>
          intro q1 v H' r' b' st' q' pk'
          have q1 : Post C Wx W r1 σ H2 (RlE C W) Q (if d.nc = true then .ok d g' else .stuck) := q1
          by_cases hn : d.nc = true
          · rw [if_pos hn] at q1
            have st2 := st'.unpS (as := as)
            rw [eun] at st2
            exact q1 v (unp as H') r' (b'.unpB pk' (out st')) st2 (q'.unp pk' hn)
          · rw [if_neg hn] at q1
            exact q1.elim
        | exc cc fs g' =>
          intro q1 cl' dx H' r' b' st' q' pk'
          have q1 : Post C Wx W r1 σ H2 (RlE C W) Q (if D.ncs (fs.map (·.2)) = true then .exc cc fs g' else .stuck) := q1
          by_cases hn : D.ncs (fs.map (·.2)) = true
          · rw [if_pos hn] at q1
            have st2 := st'.unpS (as := as)
            rw [eun] at st2
            exact q1 cl' dx (unp as H') r' (b'.unpB pk' (out st')) st2 (q'.unp pk' hn)
          · rw [if_neg hn] at q1
            exact q1.elim
      have hl : us.length = ps.length := by rw [← rvs.length]; exact Fo.len _ _ _ _ hsp
      have bnd := hb s2 us I2.kIn (by rw [List.append_nil]; exact hl)
      rw [List.append_nil] at bnd
      refine wpAny_call (codeAny_mono (Fo.run X.A X.stack s2 Hq ⟨us, []⟩ us (ws ++ [.ref ff]) _ _ hr e0 bnd rvs hsp) fun rr s' hq => ?_)
      have hq' := cr_up (Q := Q) (E := WE Wx σ) pk nf e0.hok (fun v H' z q => q z) (fun cc d H' z q => q z) hq
      rw [eun] at hq'
      cases rr with
      | error e => exact passAt tk σ pins H2 s2 e s' I2 hq'
      | ok fl =>
        cases fl with
        | ret u => exact I2.after hq'
        | next => exact False.elim hq'
        | brk => exact False.elim hq'
        | cont => exact False.elim hq'
    · exact q1.elim
  · exact q1.elim
end
/-- a def whose code object is known -/
def AtC (K : PySem.W.Frag) (mg : Str → Option Value) (x : Str) (st : Stmt) (c : Addr) : Prop :=
  ∃ (f : Addr) (oc : Value) (od : Option Addr) (kV doc pm : Value) (an : Option Addr) (ct : Value) (osl : Array (Option Value)),
    K.lookup f = some ⟨oc, od, .func (PySem.W.fnOf x x (defArgs st) (defBody st) (defScope st) .none kV doc pm an (.ref c) ct), osl⟩ ∧ PySem.W.codeIn K (.ref c) x = true ∧ PySem.W.keepIn K (.ref f) = true ∧ mg x = some (.ref f)
theorem def_okC {P : Program} {w : World} {base : Heap} {C : Cst} {x : Str} {st : Stmt} {c : Addr} {N ps : List Str} {k : Nat} {m : MS} (F : AtC C.K C.mg x st c) (S : FnScope N ps (defScope st))
    (hb : ∀ (kV doc pm : Value) (an : Option Addr) (cdv ct : Value) (us : List Value), us.length = ps.length → bindArgs (PySem.W.fnOf x x (defArgs st) (defBody st) (defScope st) .none kV doc pm an cdv ct) ⟨us, []⟩ = pure (ps.zip us))
    (hbody : ∀ (f : Addr) (A : Around) (outer : List Env) (s : Shared) (H : Hp) (E : XK), RoomG k (A.deeper (envOfC x (defScope st) s.heap.objs.size f (.ref c))) →
      PSs (cxOf (L2.CX P w) P w C.K C.mg base N x (defScope st) f (.ref c) A outer s H E) (defBody st) (RS C (fun cls d _ H' => E cls d H') m)) : Cal P w base C x (k + 1) ps (mDef N.length m) := by
  obtain ⟨f, oc, od, kV, doc, pm, an, ct, osl, lk, hcd, hkp, hmg⟩ := F
  refine ⟨f, _, fnG_of lk hcd S (fun vs H Q E h => spOf_len h) (fun A outer s H vs Q E hr h => ⟨_, hbody f A outer s H E hr, ?_⟩), hmg, hkp, .all (hb kV doc pm an (.ref c) ct)⟩
  obtain ⟨r, W, g, ds, b, q, hl, Po⟩ := h
  obtain ⟨oas, h1, h2⟩ := sls_start (C := C) (r := r) (W := W) (H := H) (N.length - vs.length) q
  have sub : ∀ a, Wf oas W a → W a := fun a z => z.elim (fun z => absurd z (h2 a)) id
  have hle : ds.length = vs.length := q.length
  have anti : Kp r r W (Wf oas W) H H := ⟨fun _ _ h => h, fun a q => q.elim .inl fun q => .inr (.inl (sub a q)), fun _ _ h _ _ _ => h, fun _ h => h⟩
  refine ⟨H, r, W, ev0 N.length ds, oas, g, r, ⟨⟨b.anti sub, ?_, fun a z => .inl z, fun i j a z _ => absurd (List.mem_of_getElem? z) (h2 a)⟩, Step.refl _ _, fun a z => absurd z (h2 a), fun a z => b.wtr a z⟩, ?_⟩
  · unfold ev0 L2.start
    rw [hle]
    exact h1.keep anti fun a z => absurd z (h2 a)
  · unfold mDef at Po
    revert Po
    cases m (ev0 N.length ds) g with
    | stuck => exact fun Po => Po
    | exc c fs g1 => exact fun Po cl dx σ' H' r' b s q => Po cl dx H' r' b s q
    | ok p g1 =>
      obtain ⟨fl, e⟩ := p
      cases fl with
      | nx => exact fun Po σ' H' oas' r' S' _ => Po .non H' r' (S'.sm.bs.anti wo_wf) S'.st .non
      | rt d => exact fun Po => Po
      | bk => exact fun Po => Po.elim
      | ct => exact fun Po => Po.elim
end GT

/-! GtM: comprehensions of two clauses. -/
namespace GT
open PySem PySem.Spec PyProof.Rows L2 RZ
theorem loop_it {J : It} {n : Nat} {Gd : Hp → Prop} {Y : Nat → Hp → V → Hp → Prop} (w : Walk J n Gd Y) {H0 : Hp} {Fin : Hp → Prop} {Body : V → Hp → (Hp → Prop) → Prop} (Pv : Nat → Hp → Prop) (h0 : Pv 0 H0) (hG : ∀ i H, i ≤ n → Pv i H → Gd H)
    (hs : ∀ i x H H', i < n → Pv i H → Y i H x H' → Body x H' (Pv (i + 1))) (hd : ∀ H, Pv n H → Fin H) :
    ∃ W : Nat → Nat → Hp → Prop, (∃ m, W 0 m H0) ∧ ∀ i m H, W i m H → (J.stop i H ∧ Fin H) ∨ (J.go i H ∧ ∃ Nx : Hp → Prop, (∀ H', Nx H' → ∃ m', m' < m ∧ W (i + 1) m' H') ∧ ∀ x H', J.yld i H x H' → Body x H' Nx) := by
  refine ⟨fun i m H => m = n - i ∧ i ≤ n ∧ Pv i H, ⟨n, by simp, Nat.zero_le _, h0⟩, ?_⟩
  rintro i m H ⟨rfl, hi, p⟩
  have q := hG i H hi p
  by_cases hlt : i < n
  · exact .inr ⟨w.goes i H hlt q, Pv (i + 1), fun H' p' => ⟨n - (i + 1), by omega, rfl, hlt, p'⟩, fun x H' y => hs i x H H' hlt p (w.yields i H x H' hlt q y)⟩
  · have e : i = n := by omega
    subst e
    exact .inl ⟨w.stops H q, hd H p⟩
/-- the inner loop -/
def compI (bind : Bnd) (mt : MT) (me : ME) (env : Ev) : List D → List D → G → R (List D)
  | [], acc, g => .ok acc g
  | d :: ds, acc, g => match bind d env with
    | none => .stuck
    | some env1 => (mt env1 g).nox.bind fun b g1 => if b then (me env1 g1).nox.bind fun y g2 => if acc.length < 1000000 then compI bind mt me env ds (acc ++ [y]) g2 else .stuck else compI bind mt me env ds acc g1
/-- the outer loop -/
def compO (bind : Bnd) (mt : MT) (mi1 : MI) (bind1 : Bnd) (mt1 : MT) (me : ME) (vs1 : List Nat) (env : Ev) : List D → List D → G → R (List D)
  | [], acc, g => .ok acc g
  | d :: ds, acc, g => match bind d env with
    | none => .stuck
    | some env1 => (mt env1 g).nox.bind fun b g1 => if b then (mi1 env1 g1).nox.bind fun ds1 g2 => (compI bind1 mt1 me (wipeE env1 vs1) ds1 acc g2).bind fun acc' g3 => compO bind mt mi1 bind1 mt1 me vs1 env ds acc' g3 else compO bind mt mi1 bind1 mt1 me vs1 env ds acc g1
def mComp2 (vs vs1 : List Nat) (mi : MI) (bind : Bnd) (mt : MT) (mi1 : MI) (bind1 : Bnd) (mt1 : MT) (me : ME) : Ev → G → R (List D) := fun env g => (mi env g).bind fun ds g1 => compO bind mt mi1 bind1 mt1 me vs1 (wipeE env vs) ds [] g1
theorem drop_at {ds : List D} {i : Nat} {d : D} (h : ds[i]? = some d) : ds.drop i = d :: ds.drop (i + 1) := by
  obtain ⟨hlt, e⟩ := List.getElem?_eq_some_iff.mp h
  rw [List.drop_eq_getElem_cons hlt, e]
section
variable {X : Cx} {C : Cst} {Wx : WX}
theorem re_comp2 {vs vs1 is is1 : List Nat} {mi mi1 : MI} {bind bind1 : Bnd} {mt mt1 : MT} {me : ME} {tg tg1 : TG} (hb : BindS C is tg bind) (hi : ∀ i ∈ is, i ∈ vs) (hb1 : BindS C is1 tg1 bind1) (hi1 : ∀ i ∈ is1, i ∈ vs1) {σ : L2.St} {H : Hp} {Q : VK} (h : RN C Wx (mComp2 vs vs1 mi bind mt mi1 bind1 mt1 me) σ H Q) :
    tLc2 (RI C Wx mi) tg (RT C W0 mt) (RI C W0 mi1) tg1 (RT C W0 mt1) (RE C W0 me) vs vs1 σ H Q := by
  obtain ⟨W, env, oas, g, r, S, P⟩ := h
  refine ⟨W, env, oas, g, r, S, ?_⟩
  unfold mComp2 at P
  revert P
  cases hmi : mi env g with
  | exc c fs g1 => exact fun P => P
  | stuck => exact fun P => P
  | ok ds g1 =>
    intro P J H1 r1 b1 s1 ⟨hz, Gd, Y, w, st, yl⟩ Dn hD
    have S1 := S.step s1 b1
    have hDw : ¬ W Dn := b1.w0 hD
    have hD0 : H Dn = none := s1.dom _ hD
    have P : PostN C Wx W r σ H (Ct C) Q (compO bind mt mi1 bind1 mt1 me vs1 (wipeE env vs) ds [] g1) := P
    obtain ⟨oas1, Sw, ho1⟩ := (S1.more (p := Dn) (o := .lst []) hD (fun z => nomatch z)).wipe vs
    have nD : some Dn ∉ oas1 := fun z => b1.wtr Dn (S1.own Dn (ho1 _ z)) hD
    refine loop_it w (fun i H' => ∃ r' g' ys acc, Sm C (fun a => a = Dn ∨ W a) (wipeE env vs) oas1 g' r' (L2.wipe σ vs) H' ∧ Kp r1 r' W (fun a => a = Dn ∨ W a) H1 H' ∧ Step r r' H H' ∧ H' Dn = some (.lst acc) ∧ acc.length ≤ sizeLine ∧ RpL C r' (fun a => a = Dn ∨ W a) H' ys acc ∧
        PostN C Wx W r σ H (Ct C) Q (compO bind mt mi1 bind1 mt1 me vs1 (wipeE env vs) (ds.drop i) ys g')) ?_ ?_ ?_ ?_
    · exact ⟨r1, g1, [], [], Sw, Kp.more hD, s1.trans (Step.upd hD), upd_same, Nat.zero_le _, .nil, P⟩
    · rintro i H' _ ⟨r', g', ys, acc, _, k, _⟩
      exact st _ _ _ k
    · rintro i x H' H'' hi' ⟨r', g', ys, acc, Sm1, k, sr, ha, hla, qa, PP⟩ y
      obtain ⟨d, hd, b2, s2, q2⟩ := yl i r' _ g' H' x H'' k Sm1.bs hi' y
      have S2 := Sm1.step s2 b2
      have ha2 : H'' Dn = some (.lst acc) := s2.ext Dn _ ha (fun z => Sm1.bs.dis Dn z (.inl rfl)) (fun _ z => by cases z)
      rw [drop_at hd, compO] at PP
      cases hbd : bind d (wipeE env vs) with
      | none => rw [hbd] at PP; exact PP.elim
      | some env1 =>
        rw [hbd] at PP
        refine hb _ _ _ _ _ _ _ d x env1 _ S2 q2 hbd fun σ2 oas2 S3 ho3 hw3 => ⟨?_, ?_⟩
        · rw [hw3 vs hi, wipe_wipe]
        · have nD3 : some Dn ∉ oas2 := fun z => nD (ho3 _ z)
          refine ⟨_, env1, oas2, g', r', S3, ?_⟩
          dsimp only at PP
          revert PP
          cases hmt : mt env1 g' with
          | exc c fs g4 => exact fun PP => PP.elim
          | stuck => exact fun PP => PP.elim
          | ok b g4 =>
            intro PP c H4 r4 b4 s4 ec
            subst ec
            have S4 := S3.step s4 b4
            have So4 := S2.step s4 b4
            have k4 : Kp r1 r4 W (fun a => a = Dn ∨ W a) H1 H4 := (k.trans s2.kp).trans s4.kp
            have ha4 : H4 Dn = some (.lst acc) := s4.ext Dn _ ha2 (fun z => S3.bs.dis Dn z (.inl rfl)) (fun _ z => by cases z)
            have sr4 : Step r r4 H H4 := (sr.trans s2).trans s4
            cases c with
            | false => exact iteF ⟨r4, g4, ys, acc, So4, k4, sr4, ha4, hla, (qa.step s2).step s4, PP⟩
            | true =>
              refine iteT ⟨_, env1, oas2, g4, r4, S4, ?_⟩
              simp only [R.nox, R.bind, if_true] at PP
              revert PP
              cases hmi1 : mi1 env1 g4 with
              | exc c fs g5 => exact fun PP => PP.elim
              | stuck => exact fun PP => PP.elim
              | ok ds1 g5 =>
                intro PP J1 H5 r5 b5 s5 ⟨hz1, Gd1, Y1, w1, st1, yl1⟩
                have S5 := S4.step s5 b5
                have So5 := So4.step s5 b5
                have k5 := k4.trans s5.kp
                have ha5 : H5 Dn = some (.lst acc) := s5.ext Dn _ ha4 (fun z => S4.bs.dis Dn z (.inl rfl)) (fun _ z => by cases z)
                have sr5 : Step r r5 H H5 := sr4.trans s5
                obtain ⟨oas3, Sw5, ho5⟩ := S5.wipe vs1
                have nD5 : some Dn ∉ oas3 := fun z => nD3 (ho5 _ z)
                dsimp only at PP
                refine loop_it w1 (fun j H' => ∃ r' g' ys acc, Sm C (fun a => a = Dn ∨ W a) (wipeE env1 vs1) oas3 g' r' (L2.wipe σ2 vs1) H' ∧ Sm C (fun a => a = Dn ∨ W a) (wipeE env vs) oas1 g' r' (L2.wipe σ vs) H' ∧ Kp r1 r' W (fun a => a = Dn ∨ W a) H1 H' ∧ Kp r5 r' (fun a => a = Dn ∨ W a) (fun a => a = Dn ∨ W a) H5 H' ∧ Step r r' H H' ∧ H' Dn = some (.lst acc) ∧ acc.length ≤ sizeLine ∧ RpL C r' (fun a => a = Dn ∨ W a) H' ys acc ∧
                  PostN C Wx W r σ H (Ct C) Q ((compI bind1 mt1 me (wipeE env1 vs1) (ds1.drop j) ys g').bind fun acc' g3 => compO bind mt mi1 bind1 mt1 me vs1 (wipeE env vs) (ds.drop (i + 1)) acc' g3)) ?_ ?_ ?_ ?_
                · exact ⟨r5, g5, ys, acc, Sw5, So5, k5, Kp.refl _ _ _, sr5, ha5, hla, ((qa.step s2).step s4).step s5, PP⟩
                · rintro j H' _ ⟨r', g', ys, acc, _, _, _, kk, _⟩
                  exact st1 _ _ _ kk
                · rintro j x1 HA HB hj ⟨r', g', ys, acc, SmA, SoA, kA, kkA, srA, haA, hlA, qA, PA⟩ y1
                  obtain ⟨d1, hd1, b6, s6, q6⟩ := yl1 j r' _ g' HA x1 HB kkA SmA.bs hj y1
                  have S6 := SmA.step s6 b6
                  have So6 := SoA.step s6 b6
                  have ha6 : HB Dn = some (.lst acc) := s6.ext Dn _ haA (fun z => SmA.bs.dis Dn z (.inl rfl)) (fun _ z => by cases z)
                  rw [drop_at hd1, compI] at PA
                  cases hbd1 : bind1 d1 (wipeE env1 vs1) with
                  | none => rw [hbd1] at PA; exact PA.elim
                  | some env2 =>
                    rw [hbd1] at PA
                    refine hb1 _ _ _ _ _ _ _ d1 x1 env2 _ S6 q6 hbd1 fun σ3 oas4 S7 ho7 hw7 => ⟨?_, ?_⟩
                    · rw [hw7 vs1 hi1, wipe_wipe]
                    · have nD7 : some Dn ∉ oas4 := fun z => nD5 (ho7 _ z)
                      refine ⟨_, env2, oas4, g', r', S7, ?_⟩
                      dsimp only at PA
                      revert PA
                      cases hmt1 : mt1 env2 g' with
                      | exc c fs g4 => exact fun PP => PP.elim
                      | stuck => exact fun PP => PP.elim
                      | ok b g8 =>
                        intro PA c H8 r8 b8 s8 ec
                        subst ec
                        have S8 := S7.step s8 b8
                        have ha8 : H8 Dn = some (.lst acc) := s8.ext Dn _ ha6 (fun z => S7.bs.dis Dn z (.inl rfl)) (fun _ z => by cases z)
                        have k8 := (kA.trans s6.kp).trans s8.kp
                        have kk8 := (kkA.trans s6.kp).trans s8.kp
                        have sr8 := (srA.trans s6).trans s8
                        cases c with
                        | false => exact iteF ⟨r8, g8, ys, acc, (SmA.step s6 b6).step s8 b8, So6.step s8 b8, k8, kk8, sr8, ha8, hlA, (qA.step s6).step s8, PA⟩
                        | true =>
                          refine iteT ⟨_, env2, oas4, g8, r8, S8, ?_⟩
                          simp only [R.nox, R.bind, if_true] at PA
                          revert PA
                          cases hme : me env2 g8 with
                          | exc c fs g5 => exact fun PP => PP.elim
                          | stuck => exact fun PP => PP.elim
                          | ok yv g9 =>
                            intro PA v H9 r9 b9 s9 q9
                            have ha9 : H9 Dn = some (.lst acc) := s9.ext Dn _ ha8 (fun z => S8.bs.dis Dn z (.inl rfl)) (fun _ z => by cases z)
                            dsimp only at PA
                            by_cases hlen : ys.length < 1000000
                            · rw [if_pos hlen] at PA
                              have hl9 : acc.length < 1000000 := by rw [← qA.length]; exact hlen
                              refine ⟨acc, ha9, mil' hl9, r9, g9, ys ++ [yv], acc ++ [v], ?_, ?_, ?_, ?_, ?_, upd_same, by rw [List.length_append]; exact mil hl9, ?_, PA⟩
                              · exact (((SmA.step s6 b6).step s8 b8).step s9 b9).write (.inl rfl) ha9 nD5 (fun z => nomatch z)
                              · exact ((So6.step s8 b8).step s9 b9).write (.inl rfl) ha9 nD (fun z => nomatch z)
                              · exact (k8.trans s9.kp).trans (Kp.write (.inl rfl))
                              · exact (kk8.trans s9.kp).trans (Kp.write (.inl rfl))
                              · exact (sr8.trans s9).newer hD0
                              · exact ((((qA.step s6).step s8).step s9).append (.cons q9 .nil)).keep (Kp.write (.inl rfl))
                            · rw [if_neg hlen] at PA
                              exact PA.elim
                · rintro H' ⟨r', g', ys, acc, _, SoA, kA, _, srA, haA, hlA, qA, PA⟩
                  rw [List.drop_length] at PA
                  exact ⟨r', g', ys, acc, SoA, kA, srA, haA, hlA, qA, PA⟩
    · rintro H' ⟨r', g', ys, acc, Sm1, k, sr, ha, hla, qa, PP⟩
      rw [List.drop_length] at PP
      exact PP Dn H' r' Sm1.bs sr hD0 hDw ⟨acc, ha, hla, qa⟩
theorem sn_comp2 {elt tg iter tg1 iter1 : Expr} {ifs ifs1 : List Expr} {scope : Scope} {own : List (Str × Nat)} {is vs1 is1 : List Nat} {pos : Pos} {mi mi1 : MI} {bind bind1 : Bnd} {mt mt1 : MT} {me : ME} {tgt tgt1 : TG} (hc : X.calm = true) (hN : X.N.Nodup) (hi : PI X tg iter (RI C Wx mi)) (ok : BlkOk X.N X.env.scope scope own) (hv : ∀ i ∈ vs1, i ∈ own.map (·.2)) (hb : BindS C is tgt bind) (his : ∀ i ∈ is, i ∈ own.map (·.2)) (hb1 : BindS C is1 tgt1 bind1) (his1 : ∀ i ∈ is1, i ∈ vs1)
    (hg : ∀ (s : Shared) (H : Hp) (C' : Addr) (cl : List (Str × Addr)) (fp : List Addr), PG (X.blk s H scope (compEnvC scope cl C' X.env) fp) tg tgt) (ht : ∀ (s : Shared) (H : Hp) (C' : Addr) (cl : List (Str × Addr)) (fp : List Addr), PTs (X.blk s H scope (compEnvC scope cl C' X.env) fp) ifs (RT C W0 mt))
    (hi1 : ∀ (s : Shared) (H : Hp) (C' : Addr) (cl : List (Str × Addr)) (fp : List Addr), PI (X.blk s H scope (compEnvC scope cl C' X.env) fp) tg1 iter1 (RI C W0 mi1))
    (hg1 : ∀ (s : Shared) (H : Hp) (C' : Addr) (cl : List (Str × Addr)) (fp : List Addr), PG (X.blk s H scope (compEnvC scope cl C' X.env) fp) tg1 tgt1) (ht1 : ∀ (s : Shared) (H : Hp) (C' : Addr) (cl : List (Str × Addr)) (fp : List Addr), PTs (X.blk s H scope (compEnvC scope cl C' X.env) fp) ifs1 (RT C W0 mt1))
    (he : ∀ (s : Shared) (H : Hp) (C' : Addr) (cl : List (Str × Addr)) (fp : List Addr), PE (X.blk s H scope (compEnvC scope cl C' X.env) fp) elt (RE C W0 me)) (hs : ∀ x, foldedSetIterable iter X.env x = pure x := by intro _; rfl) (hs1 : ∀ env x, foldedSetIterable iter1 env x = pure x := by intro _ _; rfl) :
    PE X (.ListComp elt [⟨tg, iter, ifs, 0⟩, ⟨tg1, iter1, ifs1, 0⟩] scope pos) (RN C Wx (mComp2 (own.map (·.2)) vs1 mi bind mt mi1 bind1 mt1 me)) := PEm (pe_lc2 hc hN hi ok hv hg ht hi1 hg1 ht1 he hs hs1) fun _ _ _ h => re_comp2 hb his hb1 his1 h
theorem ss_comp2 {i : Nat} {y : Str} {py : Pos} {elt tg iter tg1 iter1 : Expr} {ifs ifs1 : List Expr} {scope : Scope} {own : List (Str × Nat)} {is vs1 is1 : List Nat} {pos spos : Pos} {mi mi1 : MI} {bind bind1 : Bnd} {mt mt1 : MT} {me : ME} {tgt tgt1 : TG} (hc : X.calm = true) (hN : X.N.Nodup) (hy : X.N[i]? = some y) (hyl : X.env.scope.names.lookup y = some .local)
    (hsw : swapsWith (.ListComp elt [⟨tg, iter, ifs, 0⟩, ⟨tg1, iter1, ifs1, 0⟩] scope pos) (some (.Name y py)) spos.line X.env = pure true) (hi : PI X tg iter (RI C Wx mi)) (ok : BlkOk X.N X.env.scope scope own) (hv : ∀ i ∈ vs1, i ∈ own.map (·.2)) (hb : BindS C is tgt bind) (his : ∀ i ∈ is, i ∈ own.map (·.2)) (hb1 : BindS C is1 tgt1 bind1) (his1 : ∀ i ∈ is1, i ∈ vs1)
    (hg : ∀ (s : Shared) (H : Hp) (C' : Addr) (cl : List (Str × Addr)) (fp : List Addr), PG (X.blk s H scope (compEnvC scope cl C' X.env) fp) tg tgt) (ht : ∀ (s : Shared) (H : Hp) (C' : Addr) (cl : List (Str × Addr)) (fp : List Addr), PTs (X.blk s H scope (compEnvC scope cl C' X.env) fp) ifs (RT C W0 mt))
    (hi1 : ∀ (s : Shared) (H : Hp) (C' : Addr) (cl : List (Str × Addr)) (fp : List Addr), PI (X.blk s H scope (compEnvC scope cl C' X.env) fp) tg1 iter1 (RI C W0 mi1))
    (hg1 : ∀ (s : Shared) (H : Hp) (C' : Addr) (cl : List (Str × Addr)) (fp : List Addr), PG (X.blk s H scope (compEnvC scope cl C' X.env) fp) tg1 tgt1) (ht1 : ∀ (s : Shared) (H : Hp) (C' : Addr) (cl : List (Str × Addr)) (fp : List Addr), PTs (X.blk s H scope (compEnvC scope cl C' X.env) fp) ifs1 (RT C W0 mt1))
    (he : ∀ (s : Shared) (H : Hp) (C' : Addr) (cl : List (Str × Addr)) (fp : List Addr), PE (X.blk s H scope (compEnvC scope cl C' X.env) fp) elt (RE C W0 me)) (hs : ∀ x, foldedSetIterable iter X.env x = pure x := by intro _; rfl) (hs1 : ∀ env x, foldedSetIterable iter1 env x = pure x := by intro _ _; rfl) :
    PS X (.Assign [.Name y py] (.ListComp elt [⟨tg, iter, ifs, 0⟩, ⟨tg1, iter1, ifs1, 0⟩] scope pos) spos) (tAsg (RN C Wx (mComp2 (own.map (·.2)) vs1 mi bind mt mi1 bind1 mt1 me)) (gName i)) :=
  PSm' (ps_setLc2 hc hN hy hyl hsw hi ok hv hg ht hi1 hg1 ht1 he hs hs1) fun En σ H h => re_comp2 hb his hb1 his1 h
end
end GT

/-! GtN: dict comprehensions with keys of any kind (follows HandS.DictComp, the put by DPut). -/
namespace GT
open PySem PySem.Spec PyProof.Rows L2 RZ
theorem d_dictSetG {X : Cx} {pins : List (Addr × Obj)} {σ : L2.St} {H H' : Hp} {s : Shared} {E : Value → Shared → Prop} {D : Addr} {y v : V} {u r : Value} {Q : Unit → Shared → Prop} (hu : X.A.units < cLine) (I : Inv X pins σ H s) (g : DPut H D y v H')
    (ry : RelV y u) (rv : RelV v r) (h : ∀ s', Inv X pins σ H' s' → Q () s') : wpAny (model X.prog X.w) X.A (dictSet D u r) Q E s := by
  rcases g with ⟨kvs, k, e, ey, l, eH⟩ | ⟨kvs, k, b, e, ey, eb, l, eH⟩
  · subst ey eH
    exact d_dictSet I e l ry rv h
  · subst ey eH
    cases (show u = Value.ref b from ry)
    obtain ⟨z, hd, xs, rel, dd⟩ := dt_of I.hok e
    have hz : xs.length ≤ sizeLine := by rw [← Paired.length rel]; exact z
    have hl : (putK kvs k v).length ≤ sizeLine := by have := length_putK kvs k v; omega
    refine wpAny_dictSet_heap (knd := tupleKind (mixKind X.prog X.w)) (hsz := hz) hu (key_of I.hok eb) dd fun h' dd' hs => h _ ?_
    obtain ⟨q, es, ep, hq, h2, h3, h4, _, h5⟩ := dd'
    refine d_write I (by rw [e]; exact True.intro) hs ⟨q, hq⟩ ⟨hl, hd, _, (rel.put k eb rv).keeps fun c ys ec => ?_, q, es, ep, hq, h2, h3, h4, h5⟩
    rw [upd_ne (ne_of ec e (fun z => nomatch z))]
    exact ec
/-- an empty dict, of either kind -/
inductive E0 : HO → Prop
  | k : E0 (.dK [])
  | t : E0 (.dT [])
theorem E0.ok {o : HO} (e : E0 o) {P : Program} {w : World} {H : Hp} (h : Heap) (hb : sysModules < h.objs.size) : ObjOk P w H (h.push { cls := .type "dict", data := .dict #[] }) h.objs.size o := by
  cases e with
  | k => exact dk_empty h hb
  | t => exact dt_empty h hb
def tDcG (o0 : HO) (wi : TI) (g : TG) (tt : TT) (tk tv : TE) (vs : List Nat) : TE := fun σ H Q => wi σ H fun J H1 => ∀ D, H1 D = none → ∃ W : Nat → Nat → Hp → Prop, (∃ m, W 0 m (upd H1 D o0)) ∧ ∀ i m H, W i m H →
  (J.stop i H ∧ Q (.ref D) H) ∨ (J.go i H ∧ ∃ Nx : Hp → Prop, (∀ H', Nx H' → ∃ m', m' < m ∧ W (i + 1) m' H') ∧ ∀ x H', J.yld i H x H' → g x (wipe σ vs) H' fun σ2 H2 => wipe σ2 vs = wipe σ vs ∧ tt σ2 H2 fun b H3 =>
    if b = true then tk σ2 H3 fun y H4 => tv σ2 H4 fun z H5 => ∃ H6, DPut H5 D y z H6 ∧ Nx H6 else Nx H3)
section
variable {X : Cx}
theorem dcG_core {o0 : HO} {pins : List (Addr × Obj)} {s : Shared} {σ : L2.St} {H : Hp} {Q : VK} {kx vx tg iter : Expr} {ifs : List Expr} {scope : Scope} {own : List (Str × Nat)} {pos pos' : Pos} {wi : TI} {g : TG} {tt : TT} {tk tv : TE} {use : Option (Value → Sem Unit)} {Qf : Value → Shared → Prop}
    (h0 : E0 o0) (hu : X.A.units < cLine) (hc : X.calm = true) (hN : X.N.Nodup) (I : Inv X pins σ H s) (hi : PI X tg iter wi) (ok : BlkOk X.N X.env.scope scope own)
    (hg : ∀ (s : Shared) (H : Hp) (C : Addr) (cl : List (Str × Addr)) (fp : List Addr), PG (X.blk s H scope (compEnvC scope cl C X.env) fp) tg g) (ht : ∀ (s : Shared) (H : Hp) (C : Addr) (cl : List (Str × Addr)) (fp : List Addr), PTs (X.blk s H scope (compEnvC scope cl C X.env) fp) ifs tt)
    (hk : ∀ (s : Shared) (H : Hp) (C : Addr) (cl : List (Str × Addr)) (fp : List Addr), PE (X.blk s H scope (compEnvC scope cl C X.env) fp) kx tk)
    (he : ∀ (s : Shared) (H : Hp) (C : Addr) (cl : List (Str × Addr)) (fp : List Addr), PE (X.blk s H scope (compEnvC scope cl C X.env) fp) vx tv) (hs : ∀ x, foldedSetIterable iter X.env x = pure x)
    (h : tDcG o0 wi g tt tk tv (own.map (·.2)) σ H Q)
    (hRR : ∀ D C s' m H', Inv X pins σ H' s' → Q (.ref D) H' → s'.heap.Ns C m → FpOk X pins H' C → compPost (model X.prog X.w) X.A X.xe use Qf (.ref D) C (.ok .next) s') :
    wpAny (model X.prog X.w) X.A (comprehension (.DictComp kx vx [⟨tg, iter, ifs, 0⟩] scope pos) scope X.env pos' newDict false (eval iter X.env) use) Qf X.xe s := by
  have hfree : ∀ y ∈ scope.names, y.2 = .free → ∃ c, X.env.cells.lookup y.1 = some c := fun y hy e => by
    rcases ok.free y hy e with k | k
    · exact I.ok.has _ (.inl k)
    · exact I.ok.has _ (.inr k)
  refine wpAny_comprehension_free (use := use) rfl hs (closure_ok hfree) ok.kind (fun y hy e => by rw [ok.uniq y hy, e])
    (thn (hi.run pins s σ H _ I h) fun xv s1 hx => thn hx fun itv s2 h2 => ?_)
  obtain ⟨it, fp, tn, J, H2, e, I2, T, st2, f2, q⟩ := h2
  subst e
  refine wpAny_newObj_type (newEnv_comp ?_)
  generalize hD : s2.heap.objs.size = D
  have hDn : H2 D = none := I2.hok.fresh (Nat.le_of_eq hD)
  obtain ⟨W, ⟨m0, w0⟩, turn⟩ := q D hDn
  generalize hs3 : ({ s2 with heap := s2.heap.push { cls := .type "dict", data := .dict #[] } } : Shared) = s3
  have I3 : Inv X pins σ (upd H2 D o0) s3 := by
    rw [← hs3]
    refine I2.laid (t' := s2.toks) (fun b o e => Heap.get?_push_of_some _ e) (Nat.le_of_eq hD) ?_
    rw [← hD]
    exact h0.ok s2.heap I2.big
  have h3 : s3.heap = s2.heap.push { cls := .type "dict", data := .dict #[] } := by rw [← hs3]
  have sz : ∀ b ∈ fp, b < s2.heap.objs.size := fun b hb => by
    obtain ⟨o, e, _⟩ := T.obj _ _ st2 b hb
    exact Heap.lt_size e
  have f3 : ∀ b ∈ fp, FpOk X pins (upd H2 D o0) b ∧ b < s3.heap.objs.size := fun b hb => by
    have hlt := sz b hb
    refine ⟨⟨?_, (f2 b hb).2⟩, by rw [h3, Heap.size_push]; exact Nat.lt_succ_of_lt hlt⟩
    rw [upd_ne (by rw [← hD]; exact Nat.ne_of_lt hlt)]
    exact (f2 b hb).1
  have st3 : tn 0 s3.heap := T.keep _ _ _ st2 fun b _ o e => by rw [h3]; exact Heap.get?_push_of_some _ e
  have I4 := block_start I3 ok hN f3
  have pg := hg s3 (upd H2 D o0) s3.heap.objs.size (cellsFrom (s3.heap.objs.size + 1) scope.names (cloFrom X.env.cells scope.names [])) fp
  have pt := ht s3 (upd H2 D o0) s3.heap.objs.size (cellsFrom (s3.heap.objs.size + 1) scope.names (cloFrom X.env.cells scope.names [])) fp
  have pk := hk s3 (upd H2 D o0) s3.heap.objs.size (cellsFrom (s3.heap.objs.size + 1) scope.names (cloFrom X.env.cells scope.names [])) fp
  have pe := he s3 (upd H2 D o0) s3.heap.objs.size (cellsFrom (s3.heap.objs.size + 1) scope.names (cloFrom X.env.cells scope.names [])) fp
  show codeAny _ _ (.compStart (.DictComp kx vx [⟨tg, iter, ifs, 0⟩] scope pos) 0 (.ref it) (.ref D) (compEnvC scope (cellsFrom (s3.heap.objs.size + 1) scope.names (cloFrom X.env.cells scope.names [])) s3.heap.objs.size X.env)) (compPost (model X.prog X.w) X.A X.xe use Qf (.ref D) s3.heap.objs.size) { s3 with heap := pushCells (s3.heap.push { cls := .type "dict", data := .dict #[] }) scope.names }
  have nfp : ∀ b ∈ fp, (upd H2 D o0) b = none := fun b hb => (f3 b hb).1.1
  generalize hce : compEnvC scope (cellsFrom (s3.heap.objs.size + 1) scope.names (cloFrom X.env.cells scope.names [])) s3.heap.objs.size X.env = ce at I4 pg pt pk pe ⊢
  have cL : ce.locals = s3.heap.objs.size := by subst hce; rfl
  generalize hH3 : upd H2 D o0 = H3 at I3 I4 pg pt pk pe w0 nfp f3
  generalize hs4 : ({ s3 with heap := pushCells (s3.heap.push { cls := .type "dict", data := .dict #[] }) scope.names } : Shared) = s4 at I4 ⊢
  have st4 : tn 0 s4.heap := T.keep _ _ _ st3 fun b _ o e => by rw [← hs4]; exact pushCells_keeps _ _ _ _ (Heap.get?_push_of_some _ e)
  have stat : ∀ {σ' : L2.St} {H' : Hp} {s' : Shared}, Inv (X.blk s3 H3 scope ce fp) [] σ' H' s' → (∀ b ∈ fp, H' b = none) → ∀ b ∈ fp, FpOk (X.blk s3 H3 scope ce fp) [] H' b := fun {σ' H' s'} I' hn b hb =>
    ⟨hn b hb, (I'.ok.exf b hb).1, I'.ok.exfs b hb, .inl hb, fun x c e => (I'.ok.exf b hb).2 x c e, fun p hp => absurd (show p ∈ ([] : List (Addr × Obj)) ++ [] from hp) (by simp)⟩
  have loop : codeAny (model X.prog X.w) X.A (.compLoop (.DictComp kx vx [⟨tg, iter, ifs, 0⟩] scope pos) 0 (.ref it) (.ref D) ce) (compPost (model X.prog X.w) X.A X.xe use Qf (.ref D) s3.heap.objs.size) s4 := by
    refine compLoop_anyD (fun n s' => ∃ i H', Inv (X.blk s3 H3 scope ce fp) [] (wipe σ (own.map (·.2))) H' s' ∧ tn i s'.heap ∧ (∀ b ∈ fp, H' b = none) ∧ W i n H') ?_ m0 ⟨0, H3, I4, st4, nfp, w0⟩
    rintro n s5 ⟨i, H5, I5, st5, n5, w5⟩
    rcases turn i n H5 w5 with ⟨stop, qq⟩ | ⟨go, Nx, hNx, step⟩
    · have td := T.done (X.blk s3 H3 scope ce fp) rfl rfl rfl hc i [] s5 _ H5 (fun _ _ => False) I5 (stat I5 n5) st5 stop
      refine thnF td fun r s6 ⟨hr, I6⟩ => ?_
      subst hr
      have I7 : Inv X pins σ H5 s6 := I3.call' (ch := fp) I6.os I6.base I6.hok I6.bare fun b hb => ⟨(f3 b hb).1.2.2.2.1, (f3 b hb).1.2.1, (f3 b hb).1.2.2.2.2.1, (f3 b hb).1.2.2.2.2.2⟩
      have nC : H5 s3.heap.objs.size = none := by
        have z : H5 ce.locals = none := I6.free
        rw [cL] at z
        exact z
      obtain ⟨m, hn, _⟩ := I6.loc
      have hn : s6.heap.Ns ce.locals m := hn
      rw [cL] at hn
      exact hRR D s3.heap.objs.size s6 m H5 I7 qq hn (I3.fpOk (Nat.le_refl _) nC)
    · have ti := T.item (X.blk s3 H3 scope ce fp) rfl rfl rfl hc i [] s5 _ H5 (fun _ _ => False) I5 (stat I5 n5) st5 go
      refine thnF ti fun r s6 ⟨u, hr, h6⟩ => ?_
      subst hr
      refine thnF h6 fun _ s7 ⟨x, H7, I7, r7, y7, st7, n7⟩ => ?_
      have I7' := I7.pinned (stat I7 n7) (T.obj _ _ st7)
      refine thnF (pg.run _ s7 _ H7 x u _ I7' r7 (step x H7 y7)) fun _ s8 ⟨σ8, H8, I8, hw8, q8⟩ => ?_
      refine thnF (pt.run _ s8 σ8 H8 _ I8 q8) fun b s9 ⟨H9, I9, q9⟩ => ?_
      have fin : ∀ {s' : Shared} {H' : Hp}, Inv (X.blk s3 H3 scope ce fp) ([] ++ pinsAt fp s7.heap) σ8 H' s' → Nx H' → ∃ m, m < n ∧ ∃ i H', Inv (X.blk s3 H3 scope ce fp) [] (wipe σ (own.map (·.2))) H' s' ∧ tn i s'.heap ∧ (∀ b ∈ fp, H' b = none) ∧ W i m H' := fun {s' H'} I' nx => by
        obtain ⟨m', hm, w'⟩ := hNx H' nx
        have pin' : ∀ b ∈ fp, ∀ o, s7.heap.get? b = some o → s'.heap.get? b = some o ∧ H' b = none := fun b hb o e =>
          let z := I'.pin (b, o) (List.mem_append_right _ (List.mem_append_right _ (mem_pinsAt hb e)))
          ⟨z.1, z.2.1⟩
        have hl : (wipe σ (own.map (·.2))).length = σ8.length := by rw [← hw8, wipe_length]
        refine ⟨m', hm, i + 1, H', (I'.unpinned (pins := [])).weak hl (fun j v e => ?_), T.keep _ _ _ st7 fun b hb o e => (pin' b hb o e).1, fun b hb => ?_, w'⟩
        · rw [← hw8] at e
          exact (wipe_some e).1
        · obtain ⟨o, e, _⟩ := T.obj _ _ st7 b hb
          exact (pin' b hb o e).2
      cases b with
      | false =>
        simp only [Bool.false_eq_true, if_false] at q9 ⊢
        exact fin I9 q9
      | true =>
        simp only [if_true] at q9 ⊢
        refine thnF (pk.run _ s9 σ8 H9 _ I9 q9) fun z s10 ⟨yk, H10, I10, r10, q10⟩ => ?_
        refine thnF (pe.run _ s10 σ8 H10 _ I10 q10) fun z2 s11 ⟨yv, H11, I11, r11, H12, dp, nx⟩ => ?_
        exact d_dictSetG (X := X.blk s3 H3 scope ce fp) hu I11 dp r10 r11 fun s12 I12 => fin I12 nx
  exact codeAny_compStart_dict loop (T.self X.A 0 _ _ _ st4 loop)
theorem pe_dcG {o0 : HO} {kx vx tg iter : Expr} {ifs : List Expr} {scope : Scope} {own : List (Str × Nat)} {pos : Pos} {wi : TI} {g : TG} {tt : TT} {tk tv : TE} (h0 : E0 o0) (hu : X.A.units < cLine) (hc : X.calm = true) (hN : X.N.Nodup) (hi : PI X tg iter wi) (ok : BlkOk X.N X.env.scope scope own)
    (hg : ∀ (s : Shared) (H : Hp) (C : Addr) (cl : List (Str × Addr)) (fp : List Addr), PG (X.blk s H scope (compEnvC scope cl C X.env) fp) tg g) (ht : ∀ (s : Shared) (H : Hp) (C : Addr) (cl : List (Str × Addr)) (fp : List Addr), PTs (X.blk s H scope (compEnvC scope cl C X.env) fp) ifs tt)
    (hk : ∀ (s : Shared) (H : Hp) (C : Addr) (cl : List (Str × Addr)) (fp : List Addr), PE (X.blk s H scope (compEnvC scope cl C X.env) fp) kx tk)
    (he : ∀ (s : Shared) (H : Hp) (C : Addr) (cl : List (Str × Addr)) (fp : List Addr), PE (X.blk s H scope (compEnvC scope cl C X.env) fp) vx tv) (hs : ∀ x, foldedSetIterable iter X.env x = pure x := by intro _; rfl) :
    PE X (.DictComp kx vx [⟨tg, iter, ifs, 0⟩] scope pos) (tDcG o0 wi g tt tk tv (own.map (·.2))) := by
  refine ⟨fun pins s σ H Q I h => ?_⟩
  rw [arm_eval_DictComp]
  refine dcG_core h0 hu hc hN I hi ok hg ht hk he hs h fun D C s' m H' I' q hn f => ⟨m, hn, fun h'' sb => ?_⟩
  obtain ⟨f0, f1, f2, f3, f4, f5⟩ := f
  exact ⟨.ref D, H', I'.turned (t' := s'.toks) (fun b o hb e => (sb.2 b hb).trans e) f0 f1 f3 f4 f5, rfl, q⟩
/-- name = {..} by the comprehension's own store -/
theorem ps_setDcG {o0 : HO} {i : Nat} {y : Str} {py : Pos} {kx vx tg iter : Expr} {ifs : List Expr} {scope : Scope} {own : List (Str × Nat)} {pos spos : Pos} {wi : TI} {g : TG} {tt : TT} {tk tv : TE} (h0 : E0 o0) (hu : X.A.units < cLine) (hc : X.calm = true) (hN : X.N.Nodup) (hy : X.N[i]? = some y) (hyl : X.env.scope.names.lookup y = some .local)
    (hsw : swapsWith (.DictComp kx vx [⟨tg, iter, ifs, 0⟩] scope pos) (some (.Name y py)) spos.line X.env = pure true) (hi : PI X tg iter wi) (ok : BlkOk X.N X.env.scope scope own)
    (hg : ∀ (s : Shared) (H : Hp) (C : Addr) (cl : List (Str × Addr)) (fp : List Addr), PG (X.blk s H scope (compEnvC scope cl C X.env) fp) tg g) (ht : ∀ (s : Shared) (H : Hp) (C : Addr) (cl : List (Str × Addr)) (fp : List Addr), PTs (X.blk s H scope (compEnvC scope cl C X.env) fp) ifs tt)
    (hk : ∀ (s : Shared) (H : Hp) (C : Addr) (cl : List (Str × Addr)) (fp : List Addr), PE (X.blk s H scope (compEnvC scope cl C X.env) fp) kx tk)
    (he : ∀ (s : Shared) (H : Hp) (C : Addr) (cl : List (Str × Addr)) (fp : List Addr), PE (X.blk s H scope (compEnvC scope cl C X.env) fp) vx tv) (hs : ∀ x, foldedSetIterable iter X.env x = pure x := by intro _; rfl) :
    PS X (.Assign [.Name y py] (.DictComp kx vx [⟨tg, iter, ifs, 0⟩] scope pos) spos) (tAsg (tDcG o0 wi g tt tk tv (own.map (·.2))) (gName i)) := by
  refine ⟨fun pins s σ H D I h => ?_⟩
  rw [exec_Assign_Name_used _ _ _ _ hsw]
  refine wpAny_bind (wpAny_standAt (wpAny_bind ?_))
  show wpAny _ X.A (do let _ ← comprehension (.DictComp kx vx [⟨tg, iter, ifs, 0⟩] scope pos) scope X.env (firstIterPos [⟨tg, iter, ifs, 0⟩] pos) newDict false (eval iter X.env) (some (assign (.Name y py) X.env))) _ _ s
  have h : tDcG o0 wi g tt tk tv (own.map (·.2)) σ H (fun x H1 => gName i x σ H1 D.nx) := h
  refine wpAny_bind (thn (dcG_core (Qf := fun _ s' => SP X pins D .next s') h0 hu hc hN I hi ok hg ht hk he hs h fun L C s' m H' I' q hn f => ?_) fun _ s' hq => wpAny_pure (wpAny_pure hq))
  show wpAny _ _ (assign (.Name y py) X.env (.ref L)) _ _ _
  refine wpAny_assign_Name (store_ok2 (v := V.ref L) I' hN hy (.inl hyl) rfl (fun s2 I2 ⟨a, sb, ha⟩ => ?_) (.inr hyl))
  obtain ⟨f0, f1, f2, f3, f4, f5⟩ := f
  have haC : C ≠ a := by
    rcases ha with z | z
    · rw [z]; exact f1
    · exact fun e => f4 y a z e.symm
  exact ⟨m, hn.sameBut sb haC, fun h3 sb3 => ⟨_, H', I2.turned (t' := s2.toks) (fun b o hb e => (sb3.2 b hb).trans e) f0 f1 f3 f4 f5, q⟩⟩
end
end GT

/-! GtO: dicts of one's own. -/
namespace GT
open PySem PySem.Spec PyProof.Rows L2 RZ
/-- a dict's content -/
inductive DS where
  | K (kvs : List (Key × D)) | T (kvs : List (List Key × D))
def DS.put : DS → D → D → Option DS
  | .K kvs, k, v => if kvs.length < 1000000 then (keyOf k).map fun q => .K (putD kvs q v) else none
  | .T kvs, k, v => if kvs.length < 1000000 then (tkeyOf k).map fun q => .T (putD kvs q v) else none
def DS.slot : DS → Slot
  | .K kvs => .oK kvs
  | .T kvs => .oT kvs
def DS.d : DS → D
  | .K kvs => .dK kvs
  | .T kvs => .dT kvs
def DS.o0 : DS → HO
  | .K _ => .dK []
  | .T _ => .dT []
def DS.nil : DS → DS
  | .K _ => .K []
  | .T _ => .T []
/-- the dict at a -/
inductive CtD (C : Cst) (r : List Addr) (W : Addr → Prop) (H : Hp) : DS → Addr → Prop
  | K {a : Addr} {ks : List (Key × D)} {xs : List (Key × V)} (h : H a = some (.dK xs)) (hl : ks.map (·.1) = xs.map (·.1)) (hz : xs.length ≤ sizeLine) (q : RpL C r W H (ks.map (·.2)) (xs.map (·.2))) : CtD C r W H (.K ks) a
  | T {a : Addr} {ks : List (List Key × D)} {xs : List (List Key × V)} (h : H a = some (.dT xs)) (hl : ks.map (·.1) = xs.map (·.1)) (hz : xs.length ≤ sizeLine) (q : RpL C r W H (ks.map (·.2)) (xs.map (·.2))) : CtD C r W H (.T ks) a
section
variable {X : Cx} {C : Cst} {Wx : WX}
theorem CtD.slR {r : List Addr} {W : Addr → Prop} {H : Hp} {s : DS} {a : Addr} (h : CtD C r W H s a) : SlR C r W H s.slot (some a) (some (.ref a)) := by
  cases h with
  | K h hl hz q => exact .oK h hl hz q
  | T h hl hz q => exact .oT h hl hz q
theorem CtD.at {r : List Addr} {W : Addr → Prop} {H : Hp} {s : DS} {a : Addr} (h : CtD C r W H s a) : ∃ o, H a = some o ∧ (∀ ps, o ≠ .tbl ps) ∧ ∀ q, o ≠ LamX.CodeO a q := by
  cases h with
  | K h => exact ⟨_, h, (fun _ z => nomatch z), fun _ z => by unfold LamX.CodeO at z; cases z⟩
  | T h => exact ⟨_, h, (fun _ z => nomatch z), fun _ z => by unfold LamX.CodeO at z; cases z⟩
theorem CtD.keep {r r' : List Addr} {W W' : Addr → Prop} {H H' : Hp} {s : DS} {a : Addr} (k : Kp r r' W W' H H') (e : H' a = H a) (h : CtD C r W H s a) : CtD C r' W' H' s a := by
  cases h with
  | K h hl hz q => exact .K (e.trans h) hl hz (q.keep k)
  | T h hl hz q => exact .T (e.trans h) hl hz (q.keep k)
theorem CtD.step {r r' : List Addr} {W : Addr → Prop} {H H' : Hp} {s : DS} {a : Addr} (st : Step r r' H H') (hr : a ∉ r) (h : CtD C r W H s a) : CtD C r' W H' s a := by
  obtain ⟨o, e, no, _⟩ := h.at
  exact h.keep st.kp (by rw [e]; exact st.ext a o e hr no)
theorem CtD.rp {r r' : List Addr} {W W' : Addr → Prop} {H : Hp} {s : DS} {a : Addr} (h : CtD C r W H s a) : ∃ u, H a = some u ∧ Mut (some u) ∧ ∀ od, ¬ Nw (.frz od u) ∧ (a ∉ r' → ¬ W' a → Kp r r' W W' H (L2.upd H a (.frz od u)) → Rp C r' W' (L2.upd H a (.frz od u)) s.d (.ref a)) := by
  cases h with
  | K h hl hz q => exact ⟨_, h, trivial, fun od => ⟨(fun z => nomatch z), fun hr hw k => .dK ⟨od, upd_same⟩ hl hz hr hw (q.keep k)⟩⟩
  | T h hl hz q => exact ⟨_, h, trivial, fun od => ⟨(fun z => nomatch z), fun hr hw k => .dT ⟨od, upd_same⟩ hl hz hr hw (q.keep k)⟩⟩
theorem len_putD {κ : Type} [DecidableEq κ] (kvs : List (κ × D)) (k : κ) (v : D) : (putD kvs k v).length ≤ kvs.length + 1 := by
  unfold putD
  split <;> simp
theorem DS.put_rp {r : List Addr} {W : Addr → Prop} {H : Hp} {s s' : DS} {a : Addr} {kd vd : D} {y z : V} (h : CtD C r W H s a) (hw : W a) (hk : Rp C r W H kd y) (hv : Rp C r W H vd z) (e : s.put kd vd = some s') :
    ∃ o, DPut H a y z (upd H a o) ∧ ¬ Nw o ∧ CtD C r W (upd H a o) s' a := by
  cases h with
  | K h hl hz q =>
    rename_i ks xs
    unfold DS.put at e
    dsimp only at e
    split at e
    · rename_i hlen
      rw [Option.map_eq_some_iff] at e
      obtain ⟨k, e1, rfl⟩ := e
      have hl0 : xs.length < 1000000 := by
        have := congrArg List.length hl
        rw [List.length_map, List.length_map] at this
        omega
      rw [keyOf_rp (.of hk) e1]
      obtain ⟨p1, p2⟩ := putD_rp k hv hl q
      refine ⟨_, DPut.k h (mil' hl0), (fun z => nomatch z), .K upd_same p1 ?_ (p2.keep (Kp.write hw))⟩
      have := length_putK xs k z
      rw [sizeLine_eq]; omega
    · cases e
  | T h hl hz q =>
    rename_i ks xs
    unfold DS.put at e
    dsimp only at e
    split at e
    · rename_i hlen
      rw [Option.map_eq_some_iff] at e
      obtain ⟨k, e1, rfl⟩ := e
      have hl0 : xs.length < 1000000 := by
        have := congrArg List.length hl
        rw [List.length_map, List.length_map] at this
        omega
      unfold tkeyOf at e1
      split at e1
      · cases hk with
        | tup ht _ _ _ qt =>
          rw [keysOf_rp qt e1] at ht
          obtain ⟨p1, p2⟩ := putD_rp k hv hl q
          refine ⟨_, DPut.t h ht (mil' hl0), (fun z => nomatch z), .T upd_same p1 ?_ (p2.keep (Kp.write hw))⟩
          have := length_putK xs k z
          rw [sizeLine_eq]; omega
      · cases e1
    · cases e
abbrev MD := Ev → G → R DS
def RNd (C : Cst) (Wx : WX) (m : MD) : TE := fun σ H Q => ∃ W env oas g r, Sm C W env oas g r σ H ∧ PostN C Wx W r σ H (CtD C) Q (m env g)
def mNewD (m : MD) : ME := fun env g => (m env g).bind fun s g1 => .ok s.d g1
/-- what comes is locked -/
def tFz (t : TE) : TE := fun σ H Q => t σ H fun v H1 => ∃ a u, v = V.ref a ∧ H1 a = some u ∧ Mut (some u) ∧ ∀ od, Q v (L2.upd H1 a (.frz od u))
theorem pe_fz {e : Expr} {t : TE} (h : PE X e t) : PE X e (tFz t) := by
  refine ⟨fun pins s σ H Q I hw => thn (h.run pins s σ H _ I hw) fun v s1 ⟨x, H1, I1, r, a, u, e1, e2, mu, q⟩ => ?_⟩
  obtain ⟨od, I2⟩ := I1.lock e2 mu
  exact ⟨x, _, I2, r, q od⟩
theorem re_newD {m : MD} {σ : L2.St} {H : Hp} {Q : VK} (h : RE C Wx (mNewD m) σ H Q) : tFz (RNd C Wx m) σ H Q := by
  obtain ⟨W, env, oas, g, r, S, P⟩ := h
  refine ⟨W, env, oas, g, r, S, ?_⟩
  unfold mNewD at P
  revert P
  cases m env g with
  | ok ds g1 =>
    intro P a H' r' b s ha hw hc
    obtain ⟨o0, e0, nt, nc⟩ := hc.at
    have hr : a ∉ r' := fun z => b.dis a z (.inl rfl)
    obtain ⟨u, hu, mu, hq⟩ := hc.rp (r' := r') (W' := W)
    refine ⟨a, u, rfl, hu, mu, fun od => ?_⟩
    obtain ⟨nn, hq⟩ := hq od
    have b2 := b.write (o := .frz od u) (.inl rfl) (fun ps z => nt ps (Option.some.inj (e0.symm.trans z))) nn (fun q z => nc q (Option.some.inj (e0.symm.trans z)))
    have k : Kp r' r' (fun z => z = a ∨ W z) W H' (L2.upd H' a (.frz od u)) := (Kp.write (H := H') (W := fun z => z = a ∨ W z) (.inl rfl)).trans ⟨fun _ _ h => h, fun z q => q.elim .inl fun q => .inr (.inl (.inr q)), fun _ _ h _ _ _ => h, fun _ h => h⟩
    exact P _ _ r' (b2.anti fun _ q => .inr q) (s.newer ha) (hq hr hw k)
  | exc c fs g1 => exact fun P => P
  | stuck => exact fun P => P
theorem se_newD {e : Expr} {m : MD} (h : PE X e (RNd C Wx m)) : PE X e (RE C Wx (mNewD m)) := PEm (pe_fz h) fun _ _ _ h => re_newD h
def mSetD (i : Nat) (m : MD) : MS := fun env g => (m env g).bind fun s g1 => .ok (.nx, env.set i s.slot) g1
theorem ss_ownD {st : Stmt} {m : MD} (i : Nat) (h : PS X st (tAsg (RNd C Wx m) (gName i))) : PS X st (RS C Wx (mSetD i m)) := PSm' h fun D σ H h => by
  obtain ⟨H0, r0, Wo, env, oas, g, r, S, P⟩ := h
  refine ⟨Wf oas Wo, env, oas, g, r, S.sm, ?_⟩
  unfold mSetD at P
  revert P
  cases m env g with
  | stuck => exact fun P => P
  | exc c fs g1 => exact fun P cl dx H' r' b s q => P cl dx σ H' r' (b.anti wo_wf) (S.st.trans s) (q.anti wo_wf)
  | ok ds g1 =>
    intro P a H' r' b s ha hw hc
    obtain ⟨S1, k1⟩ := S.own i b s ha hc.slR
    exact P _ H' _ r' S1 k1
def tFzS (t : TS) : TS := fun D σ H => t ⟨fun σ' H' => ∃ a u, H' a = some u ∧ Mut (some u) ∧ ∀ od, D.nx σ' (L2.upd H' a (.frz od u)), D.rt, D.bk, D.ct⟩ σ H
theorem ps_fz {st : Stmt} {t : TS} (h : PS X st t) : PS X st (tFzS t) := by
  refine ⟨fun pins s σ H D I hw => thn (h.run pins s σ _ _ I hw) fun f s1 q => ?_⟩
  cases f with
  | next =>
    obtain ⟨σ', H', I2, a, u, e, mu, q⟩ := q
    obtain ⟨od, I3⟩ := I2.lock e mu
    exact ⟨σ', _, I3, q od⟩
  | brk => exact q
  | cont => exact q
  | ret v => exact q
theorem RNd.mono {m : MD} {σ : L2.St} {H : Hp} {Q Q' : VK} (h : RNd C Wx m σ H Q) (k : ∀ v H1, Q v H1 → Q' v H1) : RNd C Wx m σ H Q' := by
  obtain ⟨W, env, oas, g, r, S, P⟩ := h
  refine ⟨W, env, oas, g, r, S, ?_⟩
  revert P
  cases m env g with
  | ok ds g1 => exact fun P a H' r' b s ha hw hc => k _ _ (P a H' r' b s ha hw hc)
  | exc c fs g1 => exact fun P => P
  | stuck => exact fun P => P
theorem ss_valD {st : Stmt} {m : MD} {i : Nat} (h : PS X st (tAsg (RNd C Wx m) (gName i))) : PS X st (RS C Wx (mAsg (mNewD m) (bName i))) := PSm' (ps_fz h) fun D σ H h => by
  have z : RE C Wx (mNewD m) σ H fun v H1 => D.nx (σ.set i (some v)) H1 := by
    obtain ⟨H0, r0, Wo, env, oas, g, r, S, P⟩ := h
    refine ⟨Wf oas Wo, env, oas, g, r, S.sm, Post.mono (PoS.split S.st P) fun v H1 ⟨d, g1, r1, b1, s1, p1, q1⟩ => ?_⟩
    have S1 := S.step s1 b1
    exact bs_name (C := C) i _ _ _ _ _ _ _ d v _ _ S1.sm p1 rfl fun σ' oas' m' ho _ => q1 σ' H1 oas' r1 (S1.less m' ho) (kp_sub ho)
  exact RNd.mono (re_newD z) fun v H1 ⟨a, u, e1, e2, mu, q⟩ => ⟨a, u, e2, mu, q⟩
/-- {} -/
def mD0 (s : DS) : MD := fun _ g => .ok s.nil g
theorem sn_d0K {pos : Pos} : PE X (.Dict [] [] pos) (RNd C Wx (mD0 (.K []))) := PEm pe_dnewK fun σ H Q h => by
  obtain ⟨W, env, oas, g, r, S, P⟩ := h
  intro p hp
  exact P p _ r (S.bs.more hp (fun z => nomatch z)) (Step.upd hp) hp (S.bs.w0 hp) (.K upd_same rfl (Nat.zero_le _) .nil)
theorem sn_d0T {pos : Pos} : PE X (.Dict [] [] pos) (RNd C Wx (mD0 (.T []))) := PEm pe_dnewT fun σ H Q h => by
  obtain ⟨W, env, oas, g, r, S, P⟩ := h
  intro p hp
  exact P p _ r (S.bs.more hp (fun z => nomatch z)) (Step.upd hp) hp (S.bs.w0 hp) (.T upd_same rfl (Nat.zero_le _) .nil)
/-! ### comprehensions -/
def dcL (bind : Bnd) (mt : MT) (mk mv : ME) (env : Ev) : List D → DS → G → R DS
  | [], acc, g => .ok acc g
  | d :: ds, acc, g => match bind d env with
    | none => .stuck
    | some env1 => (mt env1 g).nox.bind fun b g1 => if b then (mk env1 g1).nox.bind fun k g2 => (mv env1 g2).nox.bind fun v g3 => match acc.put k v with
      | some acc' => dcL bind mt mk mv env ds acc' g3
      | none => .stuck else dcL bind mt mk mv env ds acc g1
def mDc (s0 : DS) (vs : List Nat) (mi : MI) (bind : Bnd) (mt : MT) (mk mv : ME) : MD := fun env g => (mi env g).bind fun ds g1 => dcL bind mt mk mv (wipeE env vs) ds s0.nil g1
theorem DS.e0 (s : DS) : E0 s.o0 := by
  cases s with
  | K => exact .k
  | T => exact .t
theorem DS.ct0 (s : DS) {r : List Addr} {W : Addr → Prop} {H : Hp} {a : Addr} : CtD C r W (upd H a s.o0) s.nil a := by
  cases s with
  | K => exact .K upd_same rfl (Nat.zero_le _) .nil
  | T => exact .T upd_same rfl (Nat.zero_le _) .nil
theorem DS.nw0 (s : DS) : ¬ Nw s.o0 := by
  cases s with
  | K => exact fun z => nomatch z
  | T => exact fun z => nomatch z
/-- what may be written is written -/
theorem Sm.writeG {W : Addr → Prop} {env : Ev} {oas : List (Option Addr)} {g : G} {r : List Addr} {σ : L2.St} {H : Hp} (m : Sm C W env oas g r σ H) {p : Addr} {o u : HO} (hp : W p) (hl : H p = some u) (h1 : ∀ ps, u ≠ .tbl ps) (h2 : ∀ q, u ≠ LamX.CodeO p q) (ho : some p ∉ oas) (nt : ¬ Nw o) : Sm C W env oas g r σ (upd H p o) :=
  ⟨m.bs.write hp (fun ps z => by rw [hl] at z; exact h1 ps (Option.some.inj z)) nt (fun q z => by rw [hl] at z; exact h2 q (Option.some.inj z)), m.sl.keep (Kp.write hp) fun a ha => by
      rw [upd_ne (fun q => ho (by rw [← q]; exact ha))], m.own, m.ownd⟩
theorem re_dc {s0 : DS} {vs is : List Nat} {mi : MI} {bind : Bnd} {mt : MT} {mk mv : ME} {tg : TG} (hb : BindS C is tg bind) (hi : ∀ i ∈ is, i ∈ vs) {σ : L2.St} {H : Hp} {Q : VK} (h : RNd C Wx (mDc s0 vs mi bind mt mk mv) σ H Q) : tDcG s0.o0 (RI C Wx mi) tg (RT C W0 mt) (RE C W0 mk) (RE C W0 mv) vs σ H Q := by
  obtain ⟨W, env, oas, g, r, S, P⟩ := h
  refine ⟨W, env, oas, g, r, S, ?_⟩
  unfold mDc at P
  revert P
  cases hmi : mi env g with
  | exc c fs g1 => exact fun P => P
  | stuck => exact fun P => P
  | ok ds g1 =>
    intro P J H1 r1 b1 s1 ⟨hz, Gd, Y, w, st, yl⟩ Dn hD
    have S1 := S.step s1 b1
    have hDw : ¬ W Dn := b1.w0 hD
    have hD0 : H Dn = none := s1.dom _ hD
    have P : PostN C Wx W r σ H (CtD C) Q (dcL bind mt mk mv (wipeE env vs) ds s0.nil g1) := P
    obtain ⟨oas1, Sw, ho1⟩ := (S1.more (p := Dn) (o := s0.o0) hD s0.nw0).wipe vs
    have nD : some Dn ∉ oas1 := fun z => b1.wtr Dn (S1.own Dn (ho1 _ z)) hD
    refine loop_it w (fun i H' => ∃ r' g' acc, Sm C (fun a => a = Dn ∨ W a) (wipeE env vs) oas1 g' r' (L2.wipe σ vs) H' ∧ Kp r1 r' W (fun a => a = Dn ∨ W a) H1 H' ∧ Step r r' H H' ∧ CtD C r' (fun a => a = Dn ∨ W a) H' acc Dn ∧
        PostN C Wx W r σ H (CtD C) Q (dcL bind mt mk mv (wipeE env vs) (ds.drop i) acc g')) ?_ ?_ ?_ ?_
    · exact ⟨r1, g1, _, Sw, Kp.more hD, s1.trans (Step.upd hD), s0.ct0, P⟩
    · rintro i H' _ ⟨r', g', acc, _, k, _⟩
      exact st _ _ _ k
    · rintro i x H' H'' hi' ⟨r', g', acc, Sm1, k, sr, ha, PP⟩ y
      obtain ⟨d, hd, b2, s2, q2⟩ := yl i r' _ g' H' x H'' k Sm1.bs hi' y
      have S2 := Sm1.step s2 b2
      have ha2 := ha.step s2 (fun z => Sm1.bs.dis Dn z (.inl rfl))
      rw [drop_at hd, dcL] at PP
      cases hbd : bind d (wipeE env vs) with
      | none => rw [hbd] at PP; exact PP.elim
      | some env1 =>
        rw [hbd] at PP
        refine hb _ _ _ _ _ _ _ d x env1 _ S2 q2 hbd fun σ' oas' S3 ho3 hw3 => ⟨?_, ?_⟩
        · rw [hw3 vs hi, wipe_wipe]
        · refine ⟨_, env1, oas', g', r', S3, ?_⟩
          dsimp only at PP
          revert PP
          cases hmt : mt env1 g' with
          | exc c fs g4 => exact fun PP => PP.elim
          | stuck => exact fun PP => PP.elim
          | ok b g4 =>
            intro PP c H4 r4 b4 s4 ec
            subst ec
            have S4 := S3.step s4 b4
            have k4 : Kp r1 r4 W (fun a => a = Dn ∨ W a) H1 H4 := (k.trans s2.kp).trans s4.kp
            have ha4 := ha2.step s4 (fun z => S3.bs.dis Dn z (.inl rfl))
            have sr4 : Step r r4 H H4 := (sr.trans s2).trans s4
            cases c with
            | false => exact iteF ⟨r4, g4, acc, S2.step s4 b4, k4, sr4, ha4, PP⟩
            | true =>
              refine iteT ⟨_, env1, oas', g4, r4, S4, ?_⟩
              simp only [R.nox, R.bind, if_true] at PP
              revert PP
              cases hmk : mk env1 g4 with
              | exc c fs g5 => exact fun PP => PP.elim
              | stuck => exact fun PP => PP.elim
              | ok kd g5 =>
                intro PP kv H5 r5 b5 s5 q5
                have S5 := S4.step s5 b5
                have ha5 := ha4.step s5 (fun z => S4.bs.dis Dn z (.inl rfl))
                refine ⟨_, env1, oas', g5, r5, S5, ?_⟩
                dsimp only at PP
                revert PP
                cases hmv : mv env1 g5 with
                | exc c fs g6 => exact fun PP => PP.elim
                | stuck => exact fun PP => PP.elim
                | ok vd g6 =>
                  intro PP vv H6 r6 b6 s6 q6
                  have ha6 := ha5.step s6 (fun z => S5.bs.dis Dn z (.inl rfl))
                  dsimp only at PP
                  split at PP
                  · rename_i acc' hput
                    obtain ⟨o, hdp, hnw, hct⟩ := DS.put_rp ha6 (.inl rfl) (q5.step s6) q6 hput
                    obtain ⟨u, hu, hn1, hn2⟩ := ha6.at
                    exact ⟨_, hdp, r6, g6, acc', (((S2.step s4 b4).step s5 b5).step s6 b6).writeG (.inl rfl) hu hn1 hn2 nD hnw, ((k4.trans s5.kp).trans s6.kp).trans (Kp.write (.inl rfl)), ((sr4.trans s5).trans s6).newer hD0, hct, PP⟩
                  · exact PP.elim
    · rintro H' ⟨r', g', acc, Sm1, k, sr, ha, PP⟩
      rw [List.drop_length] at PP
      exact PP Dn H' r' Sm1.bs sr hD0 hDw ha
theorem sn_dc {s0 : DS} {kx vx tg iter : Expr} {ifs : List Expr} {scope : Scope} {own : List (Str × Nat)} {is : List Nat} {pos : Pos} {mi : MI} {bind : Bnd} {mt : MT} {mk mv : ME} {tgt : TG} (hu : X.A.units < cLine) (hc : X.calm = true) (hN : X.N.Nodup) (hi : PI X tg iter (RI C Wx mi)) (ok : BlkOk X.N X.env.scope scope own) (hb : BindS C is tgt bind) (his : ∀ i ∈ is, i ∈ own.map (·.2))
    (hg : ∀ (s : Shared) (H : Hp) (C' : Addr) (cl : List (Str × Addr)) (fp : List Addr), PG (X.blk s H scope (compEnvC scope cl C' X.env) fp) tg tgt) (ht : ∀ (s : Shared) (H : Hp) (C' : Addr) (cl : List (Str × Addr)) (fp : List Addr), PTs (X.blk s H scope (compEnvC scope cl C' X.env) fp) ifs (RT C W0 mt))
    (hk : ∀ (s : Shared) (H : Hp) (C' : Addr) (cl : List (Str × Addr)) (fp : List Addr), PE (X.blk s H scope (compEnvC scope cl C' X.env) fp) kx (RE C W0 mk))
    (he : ∀ (s : Shared) (H : Hp) (C' : Addr) (cl : List (Str × Addr)) (fp : List Addr), PE (X.blk s H scope (compEnvC scope cl C' X.env) fp) vx (RE C W0 mv)) (hs : ∀ x, foldedSetIterable iter X.env x = pure x := by intro _; rfl) :
    PE X (.DictComp kx vx [⟨tg, iter, ifs, 0⟩] scope pos) (RNd C Wx (mDc s0 (own.map (·.2)) mi bind mt mk mv)) := PEm (pe_dcG s0.e0 hu hc hN hi ok hg ht hk he hs) fun _ _ _ h => re_dc hb his h
theorem ss_dc {s0 : DS} {i : Nat} {y : Str} {py : Pos} {kx vx tg iter : Expr} {ifs : List Expr} {scope : Scope} {own : List (Str × Nat)} {is : List Nat} {pos spos : Pos} {mi : MI} {bind : Bnd} {mt : MT} {mk mv : ME} {tgt : TG} (hu : X.A.units < cLine) (hc : X.calm = true) (hN : X.N.Nodup) (hy : X.N[i]? = some y) (hyl : X.env.scope.names.lookup y = some .local)
    (hsw : swapsWith (.DictComp kx vx [⟨tg, iter, ifs, 0⟩] scope pos) (some (.Name y py)) spos.line X.env = pure true) (hi : PI X tg iter (RI C Wx mi)) (ok : BlkOk X.N X.env.scope scope own) (hb : BindS C is tgt bind) (his : ∀ i ∈ is, i ∈ own.map (·.2))
    (hg : ∀ (s : Shared) (H : Hp) (C' : Addr) (cl : List (Str × Addr)) (fp : List Addr), PG (X.blk s H scope (compEnvC scope cl C' X.env) fp) tg tgt) (ht : ∀ (s : Shared) (H : Hp) (C' : Addr) (cl : List (Str × Addr)) (fp : List Addr), PTs (X.blk s H scope (compEnvC scope cl C' X.env) fp) ifs (RT C W0 mt))
    (hk : ∀ (s : Shared) (H : Hp) (C' : Addr) (cl : List (Str × Addr)) (fp : List Addr), PE (X.blk s H scope (compEnvC scope cl C' X.env) fp) kx (RE C W0 mk))
    (he : ∀ (s : Shared) (H : Hp) (C' : Addr) (cl : List (Str × Addr)) (fp : List Addr), PE (X.blk s H scope (compEnvC scope cl C' X.env) fp) vx (RE C W0 mv)) (hs : ∀ x, foldedSetIterable iter X.env x = pure x := by intro _; rfl) :
    PS X (.Assign [.Name y py] (.DictComp kx vx [⟨tg, iter, ifs, 0⟩] scope pos) spos) (tAsg (RNd C Wx (mDc s0 (own.map (·.2)) mi bind mt mk mv)) (gName i)) := PSm' (ps_setDcG s0.e0 hu hc hN hy hyl hsw hi ok hg ht hk he hs) fun En σ H h => re_dc hb his h
/-! ### d[k] = v on a dict of one's own -/
def dsOf : Slot → Option DS
  | .oK kvs => some (.K kvs)
  | .oT kvs => some (.T kvs)
  | _ => none
def mPut (i : Nat) (mk mv : ME) : MS := fun env g => match (env[i]?).bind dsOf with
  | some s => (mv env g).bind fun v g1 => (mk env g1).bind fun k g2 => match s.put k v with
    | some s' => .ok (.nx, env.set i s'.slot) g2
    | none => .stuck
  | none => .stuck
theorem own_dict {r : List Addr} {W : Addr → Prop} {H : Hp} {sl : Slot} {s : DS} {o : Option Addr} {v : Option V} (h : SlR C r W H sl o v) (e : dsOf sl = some s) : ∃ a, o = some a ∧ v = some (.ref a) ∧ CtD C r W H s a := by
  unfold dsOf at e
  split at e
  · cases e
    cases h with
    | oK h hl hz q => exact ⟨_, rfl, rfl, .K h hl hz q⟩
  · cases e
    cases h with
    | oT h hl hz q => exact ⟨_, rfl, rfl, .T h hl hz q⟩
  · cases e
theorem ss_put {o i value : Expr} {pos pos' pn : Pos} {mk mv : ME} {x : Str} (j : Nat) (hu : X.A.units + 1 < cLine) (hN : X.N[j]? = some x) (hv : Vis X.env.scope x) (hd : (x == ("__debug__" : Str)) = false) (hcd : (x == ("__classdict__" : Str)) = false) (hk : PE X i (RE C Wx mk)) (hvv : PE X value (RE C Wx mv)) (hs : swapsWith value (some (.Subscript (.Name x pn) i pos')) pos.line X.env = pure false) :
    PS X (.Assign [.Subscript (.Name x pn) i pos'] value pos) (RS C Wx (mPut j mk mv)) := PSm' (ps_dput hu (pe_var hN hv hd hcd) hk hvv hs) fun En σ H h => by
  obtain ⟨H0, r0, Wo, env, oas, g, r, S, P⟩ := h
  unfold mPut at P
  split at P
  · rename_i s hs0
    obtain ⟨sl, hsl, hs⟩ := Option.bind_eq_some_iff.mp hs0
    obtain ⟨oo, vv, e1, e2, e3⟩ := S.sm.sl.get hsl
    obtain ⟨a, rfl, rfl, _⟩ := own_dict e3 hs
    refine ⟨Wf oas Wo, env, oas, g, r, S.sm, Post.mono (PoS.split S.st P) fun v H1 ⟨d, g1, r1, b1, s1, p1, q1⟩ => ?_⟩
    have S1 := S.step s1 b1
    refine ⟨_, e2, Wf oas Wo, env, oas, g1, r1, S1.sm, Post.mono (PoS.split S1.st q1) fun y H2 ⟨kd, g2, r2, b2, s2, p2, q2⟩ => ?_⟩
    have S2 := S1.step s2 b2
    dsimp only at q2
    split at q2
    · rename_i s' hput
      obtain ⟨oo, vv, e1', e2', e3'⟩ := S2.sm.sl.get hsl
      rw [e1] at e1'
      cases e1'
      obtain ⟨a', ea, rfl, hct⟩ := own_dict e3' hs
      cases ea
      have hWa : Wf oas Wo a := .inl (List.mem_of_getElem? e1)
      obtain ⟨o', hdp, hnw, hct'⟩ := DS.put_rp hct hWa p2 (p1.step s2) hput
      obtain ⟨S3, k3⟩ := S2.wr (o := o') e1 e2 hct.slR hnw hct'.slR
      exact ⟨a, _, rfl, hdp, q2 σ _ oas r2 S3 k3⟩
    · exact q2.elim
  · exact P.elim
end
end GT

/-! GtP: sorted of a list of tuples of ints, any number of them. -/
namespace GT
open PySem PySem.Spec PyProof.Rows L2 RZ
def lexL : List Int → List Int → Bool
  | [], [] => false
  | [], _ :: _ => true
  | _ :: _, [] => false
  | a :: as, b :: bs => if a = b then lexL as bs else decide (a < b)
theorem lexL_asym : ∀ x y : List Int, lexL x y = true → lexL y x = false
  | [], [], h => by simp [lexL] at h
  | [], _ :: _, _ => by simp [lexL]
  | _ :: _, [], h => by simp [lexL] at h
  | a :: as, b :: bs, h => by
    unfold lexL at h ⊢
    by_cases e : a = b
    · rw [if_pos e] at h; rw [if_pos e.symm]; exact lexL_asym as bs h
    · rw [if_neg e] at h; rw [if_neg (Ne.symm e)]; simp at h ⊢; omega
theorem lexL_tr : ∀ x y z : List Int, lexL y x = false → lexL z y = false → lexL z x = false
  | [], [], z, _, h => h
  | [], _ :: _, [], _, h => by simp [lexL] at h
  | [], _ :: _, _ :: _, _, _ => by simp [lexL]
  | _ :: _, [], _, h, _ => by simp [lexL] at h
  | _ :: _, _ :: _, [], _, h => by simp [lexL] at h
  | a :: as, b :: bs, c :: cs, h1, h2 => by
    unfold lexL at h1 h2 ⊢
    by_cases e1 : b = a
    · rw [if_pos e1] at h1
      by_cases e2 : c = b
      · rw [if_pos e2] at h2; rw [if_pos (e2.trans e1)]; exact lexL_tr as bs cs h1 h2
      · rw [if_neg e2] at h2; rw [if_neg (fun z => e2 (z.trans e1.symm))]; simp at h2 ⊢; omega
    · rw [if_neg e1] at h1
      by_cases e2 : c = b
      · rw [if_neg (fun z => e1 (e2.symm.trans z))]; simp at h1 ⊢; omega
      · rw [if_neg e2] at h2
        simp at h1 h2
        rw [if_neg (by omega)]
        simp; omega
theorem swoL : SrtO.Swo lexL := ⟨lexL_asym, lexL_tr⟩
theorem swoLk {α : Type} (k : α → List Int) : SrtO.Swo fun x y => lexL (k x) (k y) := ⟨fun x y => lexL_asym _ _, fun x y z => lexL_tr _ _ _⟩
/-- put behind all that are not above it -/
def insL {α : Type} (lt : α → α → Bool) (y : α) : List α → List α
  | [] => [y]
  | x :: l => if lt y x then y :: x :: l else x :: insL lt y l
def sortL {α : Type} (lt : α → α → Bool) (l : List α) : List α := l.foldl (fun acc y => insL lt y acc) []
theorem insL_ok {α : Type} {lt : α → α → Bool} (O : SrtO.Swo lt) (y : α) : ∀ (l : List α), SrtO.Srtd lt l → ∃ M N, l = M ++ N ∧ insL lt y l = M ++ y :: N ∧ (∀ x ∈ M, lt y x = false) ∧ ∀ x ∈ N, lt y x = true
  | [], _ => ⟨[], [], rfl, rfl, (fun x h => by cases h), (fun x h => by cases h)⟩
  | x :: l, hs => by
    unfold insL
    by_cases q : lt y x = true
    · rw [if_pos q]
      exact ⟨[], x :: l, rfl, rfl, (fun x h => by cases h), O.lt_all hs q⟩
    · rw [if_neg q]
      obtain ⟨M, N, e1, e2, h1, h2⟩ := insL_ok O y l (List.pairwise_cons.mp hs).2
      refine ⟨x :: M, N, by rw [e1]; rfl, by rw [e2]; rfl, fun z hz => ?_, h2⟩
      rcases List.mem_cons.mp hz with e | e
      · rw [e]; simpa using q
      · exact h1 z e
theorem sortL_ok {α : Type} {lt : α → α → Bool} (O : SrtO.Swo lt) (l : List α) : SrtO.Srtd lt (sortL lt l) ∧ SrtO.Stb lt (sortL lt l) l := by
  have go : ∀ (l acc pre : List α), SrtO.Srtd lt acc → SrtO.Stb lt acc pre → SrtO.Srtd lt (l.foldl (fun acc y => insL lt y acc) acc) ∧ SrtO.Stb lt (l.foldl (fun acc y => insL lt y acc) acc) (pre ++ l) := fun l => by
    induction l with
    | nil => intro acc pre h1 h2; rw [List.append_nil]; exact ⟨h1, h2⟩
    | cons y l ih =>
      intro acc pre h1 h2
      obtain ⟨M, N, e1, e2, h3, h4⟩ := insL_ok O y acc h1
      have := ih (insL lt y acc) (pre ++ [y]) (by rw [e2]; exact SrtO.ins_srtd O (e1 ▸ h1) h3 h4) (by rw [e2]; exact SrtO.ins_stb O h4 (e1 ▸ h2))
      rw [List.append_assoc] at this
      exact this
  exact go l [] [] List.Pairwise.nil (SrtO.Stb.refl _)
theorem sortL_uniq {α : Type} {lt : α → α → Bool} (O : SrtO.Swo lt) {l m : List α} (h1 : SrtO.Srtd lt m) (h2 : SrtO.Stb lt m l) : m = sortL lt l := by
  obtain ⟨h3, h4⟩ := sortL_ok O l
  exact SrtO.stb_uniq O h1 h3 ⟨h2.perm.trans h4.perm.symm, fun x => (h2.cls x).trans (h4.cls x).symm⟩
/-! ### the model's comparisons -/
def IsInts (h : Heap) (v : Value) (ns : List Int) : Prop := ∃ a o its n, v = .ref a ∧ h.get? a = some o ∧ o.cls = .type "tuple" ∧ o.data = .seq its n ∧ IntsAre its.toList ns
theorem IsInts.keeps {h h' : Heap} {v : Value} {ns : List Int} (p : IsInts h v ns) (k : ∀ b o, h.get? b = some o → o.cls = .type "tuple" → h'.get? b = some o) : IsInts h' v ns := by
  obtain ⟨a, o, its, n, e, ho, hc, hd⟩ := p
  exact ⟨a, o, its, n, e, k _ _ ho hc, hc, hd⟩
section
variable {prog : Program} {w : World} {A : Around} {E : Value → Shared → Prop} {s : Shared}
theorem lex_intsL {b fin : Bool} {Q : Bool → Shared → Prop} : ∀ {xs ys : List Value} {ns ms : List Int} (i : Nat), IntsAre xs ns → IntsAre ys ms → fin = decide (ns.length < ms.length) → Q (lexL ns ms) s → PySem.W.KatLex prog w A b fin Q (xs.zip ys) i s
  | _, _, _, _, i, .nil, .nil, hf, h => by
    subst hf
    exact PySem.W.kat_nil h
  | _, _, _, _, i, .nil, .cons m t hy, hf, h => by
    subst hf
    exact PySem.W.kat_nil h
  | _, _, _, _, i, .cons n t hx, .nil, hf, h => by
    subst hf
    exact PySem.W.kat_nil h
  | _, _, _, _, i, .cons n t hx (vs := vs) (ns := ns), .cons m u hy (vs := ws) (ns := ms), hf, h => by
    rw [List.zip_cons_cons]
    refine PySem.W.kat_cons (SeqAt.EqAt.int_int n t m u prog w _ _ ?_)
    unfold lexL at h
    refine PySem.W.kat_go (fun e1 => ?_) (fun e1 => ?_)
    · have ex : n = m := by simpa using e1
      rw [if_pos ex] at h
      refine PySem.W.kat_yes (lex_intsL (i + 1) hx hy ?_ h)
      rw [hf]
      simp
    · have ex : ¬ n = m := by simpa using e1
      rw [if_neg ex] at h
      exact PySem.W.kat_no (TS.oneLt_ints _ h)
theorem ints_cmp {vs : List Value} {k : Value → List Int} (hp : ∀ v ∈ vs, IsInts s.heap v (k v)) : SrtO.Cmp prog w A s (tuples' true) (fun p => p.1 ∈ vs) (SrtO.lt2 fun v u => lexL (k v) (k u)) := by
  intro p q hm hm'
  obtain ⟨a, o, its, n, e, ho, hc, hd, hi⟩ := hp _ hm
  obtain ⟨a', o', its', n', e', ho', hc', hd', hi'⟩ := hp _ hm'
  show wpAny (model prog w) A (keyLt' (tuples' true) p.1 q.1) (fun r s' => s' = s ∧ r = lexL (k p.1) (k q.1)) (fun _ _ => False) s
  generalize k p.1 = ns at hi ⊢
  generalize k q.1 = ms at hi' ⊢
  rw [e, e']
  refine PySem.W.kat_lt ho hd ho' hd' (lex_intsL 0 hi hi' ?_ ⟨rfl, rfl⟩)
  rw [← hi.length, ← hi'.length, Array.length_toList, Array.length_toList]
theorem firstsL {h : Heap} : ∀ {vs : List Value}, (∀ v ∈ vs, ∃ ns, ns ≠ [] ∧ IsInts h v ns) → ∃ fs : List Value, PySem.W.KatTups h vs fs ∧ fs.length = vs.length ∧ ∀ f ∈ fs, ∃ x t, f = Value.int x t
  | [], _ => ⟨[], PySem.W.KatTups.nil, rfl, fun _ hm => by simp at hm⟩
  | v :: vs, hp => by
    obtain ⟨fs, h1, h2, h3⟩ := firstsL (vs := vs) fun v' hm => hp v' (List.mem_cons_of_mem _ hm)
    obtain ⟨ns, hne, a, o, its, n, e, ho, hc, hd, hi⟩ := hp v (List.mem_cons_self ..)
    subst e
    obtain ⟨its⟩ := its
    cases hi with
    | nil => exact absurd rfl hne
    | cons x t hi =>
      refine ⟨.int x t :: fs, PySem.W.KatTups.cons ho hc hd (by simp) h1, by rw [List.length_cons, List.length_cons, h2], fun f hm => ?_⟩
      rcases List.mem_cons.mp hm with rfl | hm
      · exact ⟨x, t, rfl⟩
      · exact h3 f hm
theorem ints_sortable {a : Addr} {vs : List Value} {k : Value → List Int} (h0 : 0 < vs.length) (hp : ∀ v ∈ vs, k v ≠ [] ∧ IsInts s.heap v (k v)) (ha : ∀ o, s.heap.get? a = some o → o.cls ≠ .type "tuple") : SrtO.SortableO prog w A s a vs fun v u => lexL (k v) (k u) := by
  intro h' keep
  have hp' : ∀ v ∈ vs, k v ≠ [] ∧ IsInts h' v (k v) := fun v hm => ⟨(hp v hm).1, (hp v hm).2.keeps fun b o e c => keep b o (fun z => by subst z; exact ha o e c) e⟩
  obtain ⟨fs, h1, h2, h3⟩ := firstsL fun v hm => ⟨_, hp' v hm⟩
  refine ⟨tuples' true, fun Q E hq => ?_, ints_cmp fun v hv => (hp' v hv).2⟩
  refine PySem.W.kat_kind (T := .type "int") h1 (by omega) (fun f hm => ?_) (by rfl) ?_
  · obtain ⟨x, t, rfl⟩ := h3 f hm
    exact PySem.W.Looks.now
  · have e : (Value.type "int" != Value.type "tuple") = true := by first | decide +kernel | rfl | decide
    rw [e]
    exact hq
theorem sorted_ints {l : Addr} {vs : List Value} {k : Value → List Int} {Q : Value → Shared → Prop} (hl : s.heap.IsList l vs.toArray) (hz : vs.length ≤ sizeLine) (hp : ∀ v ∈ vs, k v ≠ [] ∧ IsInts s.heap v (k v))
    (h : ∀ (h' : Heap) (d : Addr) (out : List Value), SrtO.Srtd (fun v u => lexL (k v) (k u)) out → SrtO.Stb (fun v u => lexL (k v) (k u)) out vs → (∀ b o, s.heap.get? b = some o → h'.get? b = some o) → s.heap.objs.size ≤ d → (∃ n, h'.get? d = some (seqObj "list" out.toArray n)) → Q (.ref d) { s with heap := h' }) :
    wpAny (model prog w) A (call (.builtin "sorted") [.ref l]) Q E s := by
  refine SrtO.sorted_ord (swoLk k) hl hz (fun h2 h₁ a ha kk => ?_) fun out hs hb => ?_
  · refine ints_sortable (s := { s with heap := h₁ }) (by omega) (fun v hm => ⟨(hp v hm).1, (hp v hm).2.keeps fun b o e _ => (kk b o e).2⟩) fun o e => ?_
    have e' : some o = some (seqObj "list" vs.toArray 0) := e.symm.trans ha
    cases e'
    intro c
    exact absurd (Value.type.inj c) (by decide)
  · exact h _ _ out hs hb (fun b o e => sortedAll_old e) (Nat.le_succ _) (sortedAll_at s.heap vs out.toArray)
end
/-! ### as a rule -/
def rSortedL (K : PySem.W.Frag) : List V → Hp → VK → Prop := fun vs H Q => ∃ (a : Addr) (xs : List V) (k : V → List Int), vs = [V.ref a] ∧ SqL K H a xs ∧ (∀ x ∈ xs, k x ≠ [] ∧ ∃ t, x = V.ref t ∧ H t = some (.tup ((k x).map V.int))) ∧
  ∀ ys p, SrtO.Srtd (fun x y => lexL (k x) (k y)) ys → SrtO.Stb (fun x y => lexL (k x) (k y)) ys xs → H p = none → Q (.ref p) (upd H p (.lst ys))
theorem cr_sortedL {X : Cx} : CallR X (.builtin "sorted") (rSortedL X.K) := by
  intro pins s σ H vs us Q I r h
  obtain ⟨a, xs, k, rfl, hs, hx, q⟩ := h
  obtain ⟨its, rv, hl, hz⟩ := I.list hs
  obtain ⟨u, rfl, ru⟩ := vals1 r
  obtain rfl : u = Value.ref a := ru
  obtain ⟨e1, e2⟩ := refs_back rv fun x m => by
    obtain ⟨_, t, e, _⟩ := hx x m
    exact ⟨t, e⟩
  refine sorted_ints (k := fun u => k (backV u)) hl.isList (by rw [← rv.length]; exact hz) (fun v hv => ?_) fun h' d out h1 h2 kp hd hn => ?_
  · obtain ⟨t, rfl⟩ := e2 v hv
    have hm : V.ref t ∈ xs := by rw [e1]; exact List.mem_map.mpr ⟨_, hv, rfl⟩
    obtain ⟨hne, t', e, ht⟩ := hx _ hm
    cases e
    obtain ⟨_, its2, r2, o, ho, hc, n, hd⟩ := I.hok _ _ ht
    exact ⟨hne, t, o, its2.toArray, n, rfl, ho, hc, hd, Vals.ints r2⟩
  · have h3 : ∀ u ∈ out, ∃ a, u = Value.ref a := fun u hu => e2 u (h2.perm.mem_iff.mp hu)
    obtain ⟨n, hn⟩ := hn
    have hb : SrtO.Stb (fun x y => lexL (k x) (k y)) (out.map backV) xs := by
      rw [e1]
      exact SrtO.Stb.map (swoLk k) backV h2
    refine ⟨.ref d, upd H d (.lst (out.map backV)), I.laid (t' := s.toks) kp hd ⟨?_, out, n, vals_back h3, hn⟩, rfl, q _ d (SrtO.srtd_map h1) hb (I.hok.fresh hd)⟩
    rw [hb.len]
    exact hz
/-! ### in data -/
def intsOf : List D → Option (List Int)
  | [] => some []
  | .int i :: ds => (intsOf ds).map (i :: ·)
  | _ :: _ => none
def tupsOf : List D → Option (List (List Int))
  | [] => some []
  | .tup (d :: ds) :: es => match intsOf (d :: ds), tupsOf es with
    | some ns, some nss => some (ns :: nss)
    | _, _ => none
  | _ :: _ => none
def fSorted : List D → Option D
  | [.lst ds] => (tupsOf ds).map fun nss => .lst ((sortL lexL nss).map fun ns => .tup (ns.map .int))
  | _ => none
section
variable {C : Cst}
theorem intsOf_rp {r : List Addr} {W : Addr → Prop} {H : Hp} : ∀ {ds : List D} {vs : List V} {ns : List Int}, RpL C r W H ds vs → intsOf ds = some ns → vs = ns.map V.int ∧ ds = ns.map D.int
  | _, _, _, .nil, e => by simp only [intsOf] at e; cases e; exact ⟨rfl, rfl⟩
  | _, _, _, .cons (d := d) h t, e => by
    cases d with
    | int i =>
      simp only [intsOf, Option.map_eq_some_iff] at e
      obtain ⟨ms, e1, rfl⟩ := e
      obtain ⟨h1, h2⟩ := intsOf_rp t e1
      rw [h.isInt, h1, h2]
      exact ⟨rfl, rfl⟩
    | _ => simp [intsOf] at e
theorem tupsOf_rp {r : List Addr} {W : Addr → Prop} {H : Hp} : ∀ {ds : List D} {vs : List V} {nss : List (List Int)}, RpL C r W H ds vs → tupsOf ds = some nss →
    ∃ k : V → List Int, vs.map k = nss ∧ ∀ x ∈ vs, k x ≠ [] ∧ (∃ t, x = .ref t ∧ H t = some (.tup ((k x).map V.int))) ∧ Rp C r W H (.tup ((k x).map D.int)) x := by
  intro ds vs nss h e
  let k : V → List Int := fun v => match v with
    | .ref t => match H t with
      | some (.tup xs) => xs.filterMap fun x => match x with
        | .int i => some i
        | _ => none
      | _ => []
    | _ => []
  have fm : ∀ ns : List Int, (ns.map V.int).filterMap (fun x => match x with
        | .int i => some i
        | _ => none) = ns := fun ns => by
    induction ns with
    | nil => rfl
    | cons n ns ih => rw [List.map_cons, List.filterMap_cons]; simp only [ih]
  have kt : ∀ t ns, H t = some (.tup (ns.map V.int)) → k (.ref t) = ns := fun t ns ht => by
    show (match H t with
      | some (.tup xs) => xs.filterMap fun x => match x with
        | .int i => some i
        | _ => none
      | _ => []) = ns
    rw [ht]
    exact fm ns
  refine ⟨k, ?_⟩
  have go : ∀ {ds : List D} {vs : List V} {nss : List (List Int)}, RpL C r W H ds vs → tupsOf ds = some nss → vs.map k = nss ∧ ∀ x ∈ vs, k x ≠ [] ∧ (∃ t, x = .ref t ∧ H t = some (.tup ((k x).map V.int))) ∧ Rp C r W H (.tup ((k x).map D.int)) x := fun {ds} => by
    induction ds with
    | nil =>
      intro vs nss h e
      cases h
      simp only [tupsOf] at e
      cases e
      exact ⟨rfl, fun x hx => by cases hx⟩
    | cons d ds ih =>
      intro vs nss h e
      cases h with
      | cons h t =>
        unfold tupsOf at e
        split at e
        · rename_i e1; cases e1
        · rename_i d1 ds1 es1 e1
          cases e1
          split at e
          · rename_i ns nss' a1 a2
            cases e
            obtain ⟨i1, i2⟩ := ih t a2
            cases h with
            | tup ht hz hr hw q =>
              obtain ⟨j1, j2⟩ := intsOf_rp q a1
              subst j1
              have kv := kt _ _ ht
              refine ⟨by rw [List.map_cons, kv, i1], fun x hx => ?_⟩
              rcases List.mem_cons.mp hx with z | z
              · subst z
                rw [kv]
                refine ⟨fun z => ?_, ⟨_, rfl, ht⟩, ?_⟩
                · rw [z] at j2; cases j2
                · rw [← j2]; exact .tup ht hz hr hw q
              · exact i2 x z
          · cases e
        · cases e
  exact go h e
theorem cs_sorted : CallS C fSorted (rSortedL C.K) := fun Wx W g r σ H ds d xs Q e b p z => by
  unfold fSorted at e
  split at e
  · rename_i es
    rw [Option.map_eq_some_iff] at e
    obtain ⟨nss, e1, rfl⟩ := e
    obtain ⟨v, rfl, p'⟩ := p.one
    obtain ⟨a, us, rfl, h1, hz, q1⟩ := p'.isLst
    obtain ⟨k, hk, ha⟩ := tupsOf_rp q1 e1
    refine ⟨a, us, k, rfl, .inl (.inl h1), fun x hx => ⟨(ha x hx).1, (ha x hx).2.1⟩, fun ys p hs hb hp => ?_⟩
    have e2 : ys.map k = sortL lexL nss := by
      refine sortL_uniq swoL (SrtO.srtd_map hs) ?_
      rw [← hk]
      exact SrtO.Stb.map swoL k hb
    have hz' : ys.length ≤ sizeLine := by rw [hb.len]; exact hz
    have q2 : RpL C r W H ((sortL lexL nss).map fun ns => .tup (ns.map .int)) ys := by
      rw [← e2, List.map_map]
      refine RpL.of_get (by simp) fun i d v h1 h2 => ?_
      rw [List.getElem?_map, h2] at h1
      cases h1
      exact (ha v (hb.perm.mem_iff.mp (List.mem_of_getElem? h2))).2.2
    exact z _ _ r (b.upd hp) (Step.upd hp) (Rp.newL b hp hz' q2)
  · cases e
end
theorem bb_sorted : bootBuiltins "sorted" = some (.builtin "sorted") := by decide +kernel
end GT

/-! GtQ: dicts that all may change. -/
namespace GT
open PySem PySem.Spec PyProof.Rows L2 RZ
section
variable {C : Cst}
theorem GOs.get {r : List Addr} {W : Addr → Prop} {H : Hp} : ∀ {g : G} {l : List Addr} {n : Nat} {o : GO}, GOs C r W H g l → g[n]? = some o → ∃ a, l[n]? = some a ∧ GOR C r W H o a
  | _, _, _, _, .nil, e => by simp at e
  | _, _, 0, _, .cons h _, e => by simp at e; subst e; exact ⟨_, rfl, h⟩
  | _, _, n + 1, o, .cons _ t, e => by
    obtain ⟨a, h1, h2⟩ := GOs.get (n := n) (o := o) t (by simpa using e)
    exact ⟨a, by simpa using h1, h2⟩
theorem GOs.len {r : List Addr} {W : Addr → Prop} {H : Hp} : ∀ {g : G} {l : List Addr}, GOs C r W H g l → g.length = l.length
  | _, _, .nil => rfl
  | _, _, .cons _ t => by simp [GOs.len t]
theorem GOs.app {r : List Addr} {W : Addr → Prop} {H : Hp} {o : GO} {a : Addr} (h : GOR C r W H o a) : ∀ {g : G} {l : List Addr}, GOs C r W H g l → GOs C r W H (g ++ [o]) (l ++ [a])
  | _, _, .nil => .cons h .nil
  | _, _, .cons q t => .cons q (GOs.app h t)
theorem GOs.setn {r : List Addr} {W : Addr → Prop} {H : Hp} {o : GO} {a : Addr} (h : GOR C r W H o a) : ∀ {g : G} {l : List Addr} (n : Nat), l[n]? = some a → GOs C r W H g l → GOs C r W H (g.set n o) l
  | _, _, _, _, .nil => .nil
  | _, _, 0, e, .cons q t => by simp at e; subst e; exact .cons h t
  | _, _, n + 1, e, .cons q t => .cons q (GOs.setn h n (by simpa using e) t)
theorem Step.gwrite {r : List Addr} {H : Hp} {a : Addr} {o : HO} (h : a ∈ r) : Step r r H (L2.upd H a o) := ⟨fun _ _ h => h, fun _ h => .inl h, fun b u e hr _ => by rw [upd_ne (fun z => hr (by rw [z]; exact h))]; exact e, upd_dom⟩
theorem GOR.keep {r r' : List Addr} {W W' : Addr → Prop} {H H' : Hp} {o : GO} {a : Addr} (k : Kp r r' W W' H H') (e : H' a = H a) (h : GOR C r W H o a) : GOR C r' W' H' o a := by
  cases h with
  | dct h hl hz q => exact .dct (e.trans h) hl hz (q.keep k)
  | ins h hl hc q => exact .ins (e.trans h) hl hc (q.keep k)
  | lst h hz q => exact .lst (e.trans h) hz (q.keep k)
  | dz h hl hz q => obtain ⟨o, h⟩ := h; exact .dz ⟨o, e.trans h⟩ hl hz (q.keep k)
/-- the n-th object is written -/
theorem GOs.put {r : List Addr} {W : Addr → Prop} {H : Hp} {o : GO} {u : HO} {a : Addr} (k : Kp r r W W H (upd H a u)) (h : GOR C r W (upd H a u) o a) : ∀ {g : G} {l : List Addr} (n : Nat), l.Nodup → l[n]? = some a → GOs C r W H g l → GOs C r W (upd H a u) (g.set n o) l
  | _, _, _, _, _, .nil => .nil
  | _, _, 0, nd, e, .cons q t => by
    simp at e
    subst e
    rw [List.nodup_cons] at nd
    exact .cons h (t.keep k fun b hb => by rw [upd_ne (fun z => nd.1 (by rw [← z]; exact hb))])
  | _, _, n + 1, nd, e, .cons q t => by
    rw [List.nodup_cons] at nd
    have e : _ := (by simpa using e)
    refine .cons (q.keep k ?_) (GOs.put k h n nd.2 e t)
    rw [upd_ne (fun z => nd.1 (by rw [z]; exact List.mem_of_getElem? e))]
theorem gnc_set {o : GO} (ho : o.nc = true) : ∀ {g : G} (n : Nat), gnc g = true → gnc (g.set n o) = true
  | [], _, h => h
  | x :: g, 0, h => by
    unfold gnc at h ⊢
    rw [List.all_cons, Bool.and_eq_true] at h
    rw [List.set_cons_zero, List.all_cons, ho, h.2]
    rfl
  | x :: g, n + 1, h => by
    unfold gnc at h ⊢
    rw [List.all_cons, Bool.and_eq_true] at h
    rw [List.set_cons_succ, List.all_cons, h.1]
    exact gnc_set ho n h.2
theorem ncs_put {κ : Type} [DecidableEq κ] {k : κ} {v : D} (hv : v.nc = true) {kvs : List (κ × D)} (h : D.ncs (kvs.map (·.2)) = true) : D.ncs ((putD kvs k v).map (·.2)) = true := by
  unfold putD
  split
  · rename_i hc
    clear hc
    induction kvs with
    | nil => rfl
    | cons p kvs ih =>
      rw [List.map_cons, D.ncs, Bool.and_eq_true] at h
      rw [List.map_cons, List.map_cons, D.ncs, Bool.and_eq_true]
      refine ⟨?_, ih h.2⟩
      split
      · exact hv
      · exact h.1
  · rename_i hc
    clear hc
    induction kvs with
    | nil => rw [List.nil_append, List.map_cons, D.ncs, hv]; rfl
    | cons p kvs ih =>
      rw [List.map_cons, D.ncs, Bool.and_eq_true] at h
      rw [List.cons_append, List.map_cons, D.ncs, Bool.and_eq_true]
      exact ⟨h.1, ih h.2⟩
theorem gnc_get {g : G} {n : Nat} {o : GO} (h : gnc g = true) (e : g[n]? = some o) : o.nc = true := by
  unfold gnc at h
  rw [List.all_eq_true] at h
  exact h o (List.mem_of_getElem? e)
theorem Bs.gput {W : Addr → Prop} {g : G} {r : List Addr} {H : Hp} {n : Nat} {a : Addr} {o : GO} {u : HO} (b : Bs C W g r H) (e : r[n]? = some a) (nw : ¬ Nw u) (h : GOR C r W (L2.upd H a u) o a) (hn : o.nc = true) : Bs C W (g.set n o) r (L2.upd H a u) := by
  have hm : a ∈ r := List.mem_of_getElem? e
  obtain ⟨v, hv, nt⟩ := GOs.notb (l := r) b.objs hm
  have nx : ∀ φ, H a ≠ some (.ext φ) := fun φ => GOs.noext b.objs hm
  refine ⟨fun q hq => ?_, b.nd, fun c hc => ?_, fun c hc => ?_, b.dis, fun c hc o' n' => ?_, GOs.put (Step.gwrite hm).kp h n b.nd e b.objs, gnc_set hn n b.gn⟩
  · obtain ⟨ps, h1, h2, h3⟩ := b.tabs q hq
    refine ⟨ps, ?_, h2, fun pos cv hc => ?_⟩
    · rw [upd_ne (fun z => nt ps (by rw [← z, h1] at hv; exact (Option.some.inj hv).symm))]; exact h1
    · obtain ⟨c, e1, e2⟩ := h3 pos cv hc
      exact ⟨c, e1, by rw [upd_ne (fun z => nx _ (by rw [← z]; exact e2))]; exact e2⟩
  · by_cases z : c = a
    · rw [z, upd_same]; exact fun y => nomatch y
    · rw [upd_ne z]; exact b.rtr c hc
  · rw [upd_ne (fun z => b.dis a hm (by rw [← z]; exact hc))]; exact b.wtr c hc
  · rw [upd_ne (fun z => b.dis a hm (by rw [← z]; exact hc))]; exact b.wnt c hc o' n'
end
/-! ### reading -/
def gAt (g : G) (d : D) (k : Key) : Option D := match d with
  | .gr n => match g[n]? with
    | some (.dct kvs) => valD kvs k
    | _ => none
  | _ => none
def mGet (m : ME) (k : Key) : ME := fun env g => (m env g).bind fun d g1 => liftO (gAt g1 d k) g1
section
variable {X : Cx} {C : Cst} {Wx : WX}
theorem gAt_rp {W : Addr → Prop} {g : G} {r : List Addr} {H : Hp} {d e : D} {v : V} {k : Key} (b : Bs C W g r H) (h : Rp C r W H d v) (eq : gAt g d k = some e) : ∃ a xs w, v = .ref a ∧ H a = some (.dK xs) ∧ valV xs k = some w ∧ Rp C r W H e w := by
  unfold gAt at eq
  split at eq
  · rename_i n
    split at eq
    · rename_i kvs hk
      cases h with
      | gr h =>
        obtain ⟨a', h1, h2⟩ := b.objs.get hk
        rw [h] at h1
        cases h1
        cases h2 with
        | dct h hl hz q =>
          rcases valD_rp k hl q with ⟨i1, i2⟩ | ⟨z, w, i1, i2, i3⟩
          · rw [i1] at eq; cases eq
          · rw [i1] at eq; cases eq
            exact ⟨_, _, w, rfl, h, i2, i3⟩
    · cases eq
  · cases eq
theorem se_get {a b : Expr} {pos : Pos} {ma : ME} {k : Key} (hu : X.A.units + 1 < cLine) (ha : PE X a (RE C Wx ma)) (hb : PE X b (tC (kV k))) (hs : PlainIx b) : PE X (.Subscript a b pos) (RE C Wx (mGet ma k)) :=
  PEm (pe_ix (ix_any hu) ha hb hs) fun σ H Q h => by
    obtain ⟨W, env, oas, g, r, S, P⟩ := h
    refine ⟨W, env, oas, g, r, S, Post.mono (Post.split P) fun v H1 ⟨d, g1, r1, b1, s1, p1, q1⟩ => ?_⟩
    obtain ⟨e, he, q2⟩ := liftO_some q1
    obtain ⟨a, xs, w, rfl, h1, h2, h3⟩ := gAt_rp b1 p1 he
    exact .inr ⟨a, w, rfl, h2 ▸ DGet.k h1, q2.here b1 h3⟩
/-! ### writing: name[k] = v -/
def gPut (g : G) (d : D) (k : Key) (v : D) : Option G := match d with
  | .gr n => match g[n]? with
    | some (.dct kvs) => if kvs.length < 1000000 ∧ v.nc = true then some (g.set n (.dct (putD kvs k v))) else none
    | _ => none
  | _ => none
def mGPut (i : Nat) (k : Key) (mv : ME) : MS := fun env g => match env[i]? with
  | some (.val d) => (mv env g).bind fun v g1 => match gPut g1 d k v with
    | some g2 => .ok (.nx, env) g2
    | none => .stuck
  | _ => .stuck
theorem ss_gput {i value : Expr} {pos pos' pn : Pos} {mv : ME} {x : Str} {k : Key} (j : Nat) (hu : X.A.units + 1 < cLine) (hN : X.N[j]? = some x) (hv : Vis X.env.scope x) (hd : (x == ("__debug__" : Str)) = false) (hcd : (x == ("__classdict__" : Str)) = false) (hk : PE X i (tC (kV k))) (hvv : PE X value (RE C Wx mv)) (hs : swapsWith value (some (.Subscript (.Name x pn) i pos')) pos.line X.env = pure false) :
    PS X (.Assign [.Subscript (.Name x pn) i pos'] value pos) (RS C Wx (mGPut j k mv)) := PSm' (ps_dput hu (pe_var hN hv hd hcd) hk hvv hs) fun En σ H h => by
  obtain ⟨H0, r0, Wo, env, oas, g, r, S, P⟩ := h
  unfold mGPut at P
  split at P
  · rename_i d hd
    obtain ⟨oo, vv, e1, e2, e3⟩ := S.sm.sl.get hd
    cases e3 with
    | val hp =>
      refine ⟨Wf oas Wo, env, oas, g, r, S.sm, Post.mono (PoS.split S.st P) fun v H1 ⟨vd, g1, r1, b1, s1, p1, q1⟩ => ?_⟩
      have S1 := S.step s1 b1
      refine ⟨_, e2, ?_⟩
      dsimp only at q1
      split at q1
      · rename_i g2 hg2
        unfold gPut at hg2
        split at hg2
        · rename_i n
          have hp1 := hp.step s1
          cases hp1 with
          | @gr _ a hn =>
            split at hg2
            · rename_i kvs hkv
              split at hg2
              · rename_i hlen0
                obtain ⟨hlen, hvn⟩ := hlen0
                cases hg2
                have hno : GO.nc (.dct (putD kvs k vd)) = true := ncs_put hvn (gnc_get b1.gn hkv)
                obtain ⟨a', h1, h2⟩ := b1.objs.get hkv
                rw [hn] at h1
                cases h1
                have hm := List.mem_of_getElem? hn
                cases h2 with
                | @dct _ _ xs h hl hz q =>
                  have hl0 : xs.length < 1000000 := by
                    have := congrArg List.length hl
                    rw [List.length_map, List.length_map] at this
                    omega
                  obtain ⟨k1, k2⟩ := putD_rp k p1 hl q
                  have st : Step r1 r1 H1 (upd H1 a (.dK (putK xs k v))) := Step.gwrite hm
                  have hz' : (putK xs k v).length ≤ sizeLine := by
                    have := length_putK xs k v
                    rw [sizeLine_eq]; omega
                  have b2 := b1.gput (o := .dct (putD kvs k vd)) hn (u := .dK (putK xs k v)) (fun z => nomatch z) (.dct upd_same k1 hz' (k2.step st)) hno
                  have S2 := S1.step st b2
                  exact ⟨a, _, rfl, DPut.k h (mil' hl0), q1 σ _ oas r1 S2 st.kp⟩
              · cases hg2
            · cases hg2
        · cases hg2
      · exact q1.elim
  · exact P.elim
/-! ### making: {k: v, ..} -/
def dispL : List (Key × ME) → Ev → G → R (List (Key × D))
  | [], _, g => .ok [] g
  | (k, m) :: ps, env, g => (m env g).bind fun d g1 => (dispL ps env g1).bind fun ds g2 => .ok ((k, d) :: ds) g2
def mergeD (kvs : List (Key × D)) : List (Key × D) := kvs.foldl (fun acc kv => putD acc kv.1 kv.2) []
def mDisp (ps : List (Key × ME)) : ME := fun env g => (dispL ps env g).bind fun kvs g1 => if kvs.length ≤ 15 ∧ D.ncs (kvs.map (·.2)) = true then .ok (.gr g1.length) (g1 ++ [.dct (mergeD kvs)]) else .stuck
theorem gnc_app {g : G} {o : GO} (h : gnc g = true) (ho : o.nc = true) : gnc (g ++ [o]) = true := by
  unfold gnc at h ⊢
  rw [List.all_append, h]
  simp [ho]
theorem ncs_fold : ∀ {kvs acc : List (Key × D)}, D.ncs (kvs.map (·.2)) = true → D.ncs (acc.map (·.2)) = true → D.ncs ((kvs.foldl (fun acc kv => putD acc kv.1 kv.2) acc).map (·.2)) = true
  | [], _, _, h => h
  | p :: kvs, acc, h, h2 => by
    rw [List.map_cons, D.ncs, Bool.and_eq_true] at h
    exact ncs_fold (kvs := kvs) (acc := putD acc p.1 p.2) h.2 (ncs_put h.1 h2)
theorem ncs_merge {kvs : List (Key × D)} (h : D.ncs (kvs.map (·.2)) = true) : GO.nc (.dct (mergeD kvs)) = true := ncs_fold h rfl
def RlD (C : Cst) (W : Addr → Prop) : List Addr → Hp → List (Key × D) → List (V × V) → Prop := fun r H ds ps => ∃ xs : List (Key × V), ps = xs.map (fun kv => (kV kv.1, kv.2)) ∧ ds.map (·.1) = xs.map (·.1) ∧ RpL C r W H (ds.map (·.2)) (xs.map (·.2))
theorem re_pairs : ∀ (ps : List (Key × ME)) {σ : L2.St} {H : Hp} {Q : List (V × V) → Hp → Prop} {W : Addr → Prop} {env : Ev} {oas : List (Option Addr)} {g : G} {r : List Addr}, Sm C W env oas g r σ H → Post C Wx W r σ H (RlD C W) Q (dispL ps env g) → tPairs (ps.map fun p => (tC (kV p.1), RE C Wx p.2)) σ H Q
  | [], σ, H, Q, W, env, oas, g, r, S, P => Post.here (d := []) (g := g) P S.bs ⟨[], rfl, rfl, .nil⟩
  | (k, m) :: ps, σ, H, Q, W, env, oas, g, r, S, P => by
    refine ⟨W, env, oas, g, r, S, Post.mono (Post.split P) fun v H1 ⟨d, g1, r1, b1, s1, p1, q1⟩ => re_pairs ps (S.step s1 b1) (Post.mono (Post.split q1) fun w H2 ⟨ds, g2, r2, b2, s2, ⟨xs, e1, e2, e3⟩, q2⟩ => ?_)⟩
    exact Post.here (d := (k, d) :: ds) (g := g2) q2 b2 ⟨(k, v) :: xs, by rw [e1]; rfl, by rw [List.map_cons, List.map_cons, e2], .cons (p1.step s2) e3⟩
theorem mergeD_rp {r : List Addr} {W : Addr → Prop} {H : Hp} : ∀ {ds acc : List (Key × D)} {xs acc' : List (Key × V)}, ds.map (·.1) = xs.map (·.1) → RpL C r W H (ds.map (·.2)) (xs.map (·.2)) → acc.map (·.1) = acc'.map (·.1) → RpL C r W H (acc.map (·.2)) (acc'.map (·.2)) →
    (ds.foldl (fun acc kv => putD acc kv.1 kv.2) acc).map (·.1) = (mergeK acc' xs).map (·.1) ∧ RpL C r W H ((ds.foldl (fun acc kv => putD acc kv.1 kv.2) acc).map (·.2)) ((mergeK acc' xs).map (·.2))
  | [], _, [], _, _, _, h1, h2 => ⟨h1, h2⟩
  | [], _, _ :: _, _, e, _, _, _ => by simp at e
  | _ :: _, _, [], _, e, _, _, _ => by simp at e
  | p :: ds, acc, q :: xs, acc', e, h, h1, h2 => by
    rw [List.map_cons, List.map_cons, List.cons.injEq] at e
    rw [List.map_cons, List.map_cons] at h
    cases h with
    | cons hd t =>
      obtain ⟨k1, k2⟩ := putD_rp p.1 hd h1 h2
      have := mergeD_rp e.2 t (acc := putD acc p.1 p.2) (acc' := putK acc' p.1 q.2) k1 k2
      show _ = (mergeK (putK acc' q.1 q.2) xs).map _ ∧ RpL C r W H _ ((mergeK (putK acc' q.1 q.2) xs).map _)
      rw [← e.1]
      exact this
theorem se_disp {pos : Pos} {keys : List (Option Expr)} {values : List Expr} (ps : List (Key × ME)) (h : PPs X pos keys values (ps.map fun p => (tC (kV p.1), RE C Wx p.2))) (hall : keys.all (·.isSome) = true) (hl : keys.length = values.length) (h0 : keys ≠ []) (h15 : keys.length ≤ 15) : PE X (.Dict keys values pos) (RE C Wx (mDisp ps)) :=
  PEm (pe_disp h hall hl h0 h15) fun σ H Q h => by
    obtain ⟨W, env, oas, g, r, S, P⟩ := h
    intro p hp
    have S0 := S.more (o := .dK []) hp (fun z => nomatch z)
    have s0 : Step r r H (upd H p (.dK [])) := Step.upd hp
    refine re_pairs ps S0 ?_
    unfold mDisp at P
    revert P
    cases hd : dispL ps env g with
    | stuck => exact fun P => P
    | exc c fs g1 => exact fun P cl dx H' r' b s q => P cl dx H' r' (b.anti fun _ z => .inr z) (s0.trans s) (q.anti fun _ z => .inr z)
    | ok kvs g1 =>
      intro P vs H2 r2 b2 s2 ⟨xs, e1, e2, e3⟩
      have hpr : p ∉ r2 := fun z => b2.dis p z (.inl rfl)
      have h2p : H2 p = some (.dK []) := s2.ext p _ upd_same (fun z => S0.bs.dis p z (.inl rfl)) (fun _ z => by cases z)
      simp only [R.bind] at P
      split at P
      · rename_i hlen0
        obtain ⟨hlen, hnc⟩ := hlen0
        have hx : xs.length ≤ 15 := by
          have := congrArg List.length e2
          rw [List.length_map, List.length_map] at this
          omega
        refine ⟨h2p, xs, e1, hx, ?_⟩
        obtain ⟨k1, k2⟩ := mergeD_rp e2 e3 (acc := []) (acc' := []) rfl .nil
        have hz : (mergeK [] xs).length ≤ sizeLine := by
          have h1 := length_mergeK xs []
          rw [List.length_nil] at h1
          rw [sizeLine_eq]; omega
        have b3 := b2.write (p := p) (o := .dK (mergeK [] xs)) (.inl rfl) (fun ps z => by rw [h2p] at z; cases z) (fun z => nomatch z) (fun q z => by rw [h2p] at z; unfold LamX.CodeO at z; cases z)
        have b4 : Bs C W g1 r2 (upd H2 p (.dK (mergeK [] xs))) := b3.anti fun _ z => .inr z
        have hpw : ¬ W p := fun z => S.bs.wtr p z hp
        have kk : Kp r2 (r2 ++ [p]) W W (upd H2 p (.dK (mergeK [] xs))) (upd H2 p (.dK (mergeK [] xs))) → True := fun _ => trivial
        have q3 : RpL C r2 W (upd H2 p (.dK (mergeK [] xs))) ((mergeD kvs).map (·.2)) ((mergeK [] xs).map (·.2)) := (k2.keep (Kp.write (.inl rfl))).anti fun _ z => .inr z
        -- what is known does not speak of p
        have kq : Kp r2 (r2 ++ [p]) (fun a => a = p ∨ W a) W H2 (upd H2 p (.dK (mergeK [] xs))) := by
          refine ⟨fun n a h => ?_, fun a h => ?_, fun a o e hr hw no => ?_, upd_dom⟩
          · rw [List.getElem?_append_left (List.getElem?_eq_some_iff.mp h).1]; exact h
          · rcases h with h | h
            · rcases List.mem_append.mp h with h | h
              · exact .inl h
              · exact .inr (.inl (.inl (by simpa using h)))
            · exact .inr (.inl (.inr h))
          · rw [upd_ne (fun z => hw (.inl z))]; exact e
        have go : GOs C (r2 ++ [p]) W (upd H2 p (.dK (mergeK [] xs))) g1 r2 := b2.objs.keep kq fun a ha => by rw [upd_ne (fun z => hpr (by rw [← z]; exact ha))]
        have b5 : Bs C W (g1 ++ [.dct (mergeD kvs)]) (r2 ++ [p]) (upd H2 p (.dK (mergeK [] xs))) := by
          refine ⟨b4.tabs, ?_, fun a ha => ?_, b4.wtr, fun a ha hw => ?_, b4.wnt, go.app (.dct upd_same k1 hz (k2.keep kq)), gnc_app b2.gn (ncs_merge hnc)⟩
          · rw [List.nodup_append]
            exact ⟨b2.nd, by simp, fun a ha c hc z => by simp at hc; subst hc; subst z; exact hpr ha⟩
          · rcases List.mem_append.mp ha with ha | ha
            · exact b4.rtr a ha
            · simp at ha; subst ha; rw [upd_same]; exact fun z => nomatch z
          · rcases List.mem_append.mp ha with ha | ha
            · exact b4.dis a ha hw
            · simp at ha; subst ha; exact hpw hw
        have st : Step r (r2 ++ [p]) H (upd H2 p (.dK (mergeK [] xs))) := by
          have t := s0.trans s2
          refine ⟨fun n a h => kq.pre n a (t.pre n a h), fun a ha => ?_, fun a o e hr no => ?_, fun a e => t.dom a (upd_dom a e)⟩
          · rcases List.mem_append.mp ha with ha | ha
            · exact t.fresh a ha
            · simp at ha; subst ha; exact .inr hp
          · rw [upd_ne (ne_of_none e hp)]; exact t.ext a o e hr no
        refine P (.ref p) _ (r2 ++ [p]) b5 st (.gr ?_)
        have hlen : g1.length = r2.length := b2.objs.len
        rw [hlen, List.getElem?_append_right (Nat.le_refl _)]
        simp
      · exact P.elim
end
end GT

/-! GtR: where in a def's text a lambda stands. -/
namespace GT
open PySem PySem.Spec PyProof.Rows L2 RZ
def exKids : Expr → List Expr
  | .Call f args _ _ => f :: args
  | .Compare l _ cs _ => l :: cs
  | .BoolOp _ vs _ => vs
  | .UnaryOp _ a _ => [a]
  | .BinOp a _ b _ => [a, b]
  | .IfExp c a b _ => [c, a, b]
  | .Tuple es _ _ => es
  | .List es _ => es
  | .Subscript a b _ => [a, b]
  | .ListComp e gs _ _ => e :: gs.flatMap fun g => g.iter :: g.ifs
  | .DictComp k v gs _ _ => k :: v :: gs.flatMap fun g => g.iter :: g.ifs
  | .Lambda _ b _ _ => [b]
  | .Attribute v _ _ => [v]
  | .Starred v _ => [v]
  | _ => []
def stKids : Stmt → List Expr
  | .Assign _ v _ => [v]
  | .Return (some v) _ => [v]
  | .Expr v _ => [v]
  | .If t _ _ _ => [t]
  | .For _ i _ _ _ => [i]
  | .While t _ _ _ => [t]
  | _ => []
def stSubs : Stmt → List Stmt
  | .If _ b e _ => b ++ e
  | .For _ _ b _ _ => b
  | .While _ b _ _ => b
  | _ => []
/-- the scope of a comprehension -/
def compSc : Expr → Scope
  | .ListComp _ _ s _ => s
  | .DictComp _ _ _ s _ => s
  | _ => ⟨.function, [], false, false, []⟩
def noE : Expr := .Constant .none 0 ⟨0, 0, 0, 0⟩
def exAt : Expr → List Nat → Expr
  | e, [] => e
  | e, i :: is => exAt ((exKids e).getD i noE) is
def stAt : List Stmt → List Nat → Stmt
  | _, [] => .Pass ⟨0, 0, 0, 0⟩
  | b, [i] => b.getD i (.Pass ⟨0, 0, 0, 0⟩)
  | b, i :: j :: is => stAt (stSubs (b.getD i (.Pass ⟨0, 0, 0, 0⟩))) (j :: is)
def lamAt (q : Str) (st : Stmt) (ss es : List Nat) : Option Lam := match exAt ((stKids (stAt (defBody st) ss)).getD 0 noE) es with
  | .Lambda ps b sc _ => some ⟨ps, b, sc, q, freeN sc, match ps with
    | ⟨_, _, _, _, _, _, .Constant (.int k) _ _ :: _⟩ => some k
    | _ => none⟩
  | _ => none
/-- the scope of a comprehension in a def -/
def scAt (st : Stmt) (ss es : List Nat) : Scope := compSc (exAt ((stKids (stAt (defBody st) ss)).getD 0 noE) es)
theorem sw_trueD {kx vx : Expr} {gs : List Comprehension} {scope : Scope} {pos py : Pos} {y : Str} {l : Nat} {env : Env} (hk : env.scope.kind = .function) (hy : env.scope.names.lookup y = some .local) (hl : (py.line == pos.line) = true)
    (ha : (scope.names.any fun (n, k) => n == y && (k == .local || k == .cell)) = false) : swapsWith (.DictComp kx vx gs scope pos) (some (.Name y py)) l env = pure true := by
  have ky : env.kindOf y = some .local := hy
  have hb : env.blockKind = .function := by unfold Env.blockKind; rw [hk]; rfl
  unfold swapsWith
  simp only [hb, ky, ha, Expr.pos, hl]
  rfl
end GT

/-! GtS: the end of a law. -/
namespace GT
open PySem PySem.Spec PyProof.Rows L2 RZ
theorem at_mk {K : PySem.W.Frag} {mg : Str → Option Value} {h : Heap} {x : Str} {st : Stmt} {f : Addr} {oc : Value} {od an : Option Addr} {osl : Array (Option Value)} {kV doc pm cdv ct : Value} (X : K.In h) (G : h.Ns mainGlobals mg) (a : PySem.W.nsIn K mainGlobals x = some (some (.ref f)))
    (l : K.lookup f = some ⟨oc, od, .func (PySem.W.fnOf x x (defArgs st) (defBody st) (defScope st) .none kV doc pm an cdv ct), osl⟩) (c : PySem.W.codeIn K cdv x = true) (k : PySem.W.keepIn K (.ref f) = true) : At K mg x st := ⟨f, _, fun_mk l c k, PySem.W.mg_of X G a⟩
theorem atC_mk {K : PySem.W.Frag} {mg : Str → Option Value} {h : Heap} {x : Str} {st : Stmt} {f cc : Addr} {oc : Value} {od an : Option Addr} {osl : Array (Option Value)} {kV doc pm ct : Value} (X : K.In h) (G : h.Ns mainGlobals mg) (a : PySem.W.nsIn K mainGlobals x = some (some (.ref f)))
    (l : K.lookup f = some ⟨oc, od, .func (PySem.W.fnOf x x (defArgs st) (defBody st) (defScope st) .none kV doc pm an (.ref cc) ct), osl⟩) (c : PySem.W.codeIn K (.ref cc) x = true) (k : PySem.W.keepIn K (.ref f) = true) : AtC K mg x st cc := ⟨f, oc, od, kV, doc, pm, an, ct, osl, l, c, k, PySem.W.mg_of X G a⟩
theorem int_mk {K : PySem.W.Frag} {mg : Str → Option Value} {h : Heap} {x : Str} {i : Int} {t : Tok} (X : K.In h) (G : h.Ns mainGlobals mg) (a : PySem.W.nsIn K mainGlobals x = some (some (.int i t))) : ∃ t, mg x = some (.int i t) := ⟨t, PySem.W.mg_of X G a⟩
theorem str_mk {K : PySem.W.Frag} {mg : Str → Option Value} {h : Heap} {x : Str} {i : Str} {t : Tok} (X : K.In h) (G : h.Ns mainGlobals mg) (a : PySem.W.nsIn K mainGlobals x = some (some (.str i t))) : ∃ t, mg x = some (.str i t) := ⟨t, PySem.W.mg_of X G a⟩
theorem tabIn_of {K : PySem.W.Frag} {x : Str} {f c P : Addr} {oc uc : Value} {od ud : Option Addr} {fd : FuncData} {sl us : Array (Option Value)} {vs : Array Value} (a : PySem.W.nsIn K mainGlobals x = some (some (.ref f))) (l : K.lookup f = some ⟨oc, od, .func fd, sl⟩) {hc : fd.code = .ref c}
    (u : K.lookup c = some ⟨uc, ud, .fields vs, us⟩) (h : vs[11]? = some (.ref P)) : PySem.W.tabIn K x = some (c, P) := by
  unfold PySem.W.tabIn
  rw [a]
  simp only [l, hc, u, h]
theorem law_mk {K : PySem.W.Frag} {mg : Str → Option Value} {h : Heap} {x y : Str} {st : Stmt} {f fa : Addr} {oc : Value} {od an : Option Addr} {osl : Array (Option Value)} {kV doc pm cdv ct : Value} (X : K.In h) (G : h.Ns mainGlobals mg) (hmg : mg x = some (.ref fa))
    (hb : ∀ (kV doc pm : Value) (an : Option Addr) (cdv ct : Value) (s : Shared) (u : Value), BindsTo s (PySem.W.fnOf x x (defArgs st) (defBody st) (defScope st) .none kV doc pm an cdv ct) ⟨[u], []⟩ [(y, u)]) (a : PySem.W.nsIn K mainGlobals x = some (some (.ref f)))
    (l : K.lookup f = some ⟨oc, od, .func (PySem.W.fnOf x x (defArgs st) (defBody st) (defScope st) .none kV doc pm an cdv ct), osl⟩) (c : PySem.W.codeIn K cdv x = true) (k : PySem.W.keepIn K (.ref f) = true) : ∃ fd : FuncData, L2.Fun K x x st fa fd ∧ ∀ (s : Shared) (u : Value), BindsTo s fd ⟨[u], []⟩ [(y, u)] := by
  have e := hmg.symm.trans (PySem.W.mg_of X G a)
  cases e
  exact ⟨_, fun_mk l c k, hb kV doc pm an cdv ct⟩
/-! ### the first abstract heap: the script and the tables -/
structure Sta (h : Heap) (K : PySem.W.Frag) (H : Hp) (a : Addr) (T : List Addr) : Prop where
  what : ∀ b u, H b = some u → (b ∈ T ∧ u = .tbl #[]) ∨ (b = a ∧ K.lookup a = none ∧ ∃ o xs, u = .frz o (.lst xs))
  tabs : ∀ b ∈ T, H b = some (.tbl #[])
  tobj : ∀ b ∈ T, h.get? b = some (PySem.W.tabObj #[])
  tK : ∀ b ∈ T, K.lookup b = none
  lst : ∃ its : List Value, h.get? a = some { cls := .type "list", data := .seq its.toArray }
section
variable {h : Heap} {K : PySem.W.Frag} {H : Hp} {a : Addr} {T : List Addr} {mg : Str → Option Value}
/-- what is neither a list nor an empty record is not tracked -/
theorem Sta.free (S : Sta h K H a T) {b : Addr} {o : Obj} (e : h.get? b = some o) (h1 : o.data ≠ .fields #[]) (h2 : ∀ v n, o.data ≠ .seq v n) : H b = none := by
  cases q : H b with
  | none => rfl
  | some u =>
    exfalso
    rcases S.what b u q with ⟨m, _⟩ | ⟨z, _⟩
    · have y := S.tobj b m
      rw [e] at y
      exact h1 (by rw [Option.some.inj y])
    · obtain ⟨its, y⟩ := S.lst
      rw [← z, e] at y
      exact h2 _ _ (by rw [Option.some.inj y])
theorem Sta.dict (S : Sta h K H a T) {b : Addr} {m : Str → Option Value} (n : h.Ns b m) : (hidT h H).Ns b m := by
  obtain ⟨o, es, k, e, d, rest⟩ := n
  exact ⟨o, es, k, hidT_get e (S.free e (by rw [d]; exact fun z => nomatch z) (by rw [d]; exact fun _ _ z => nomatch z)), d, rest⟩
theorem Sta.frag (S : Sta h K H a T) (X : K.In h) : K.In (hidT h H) := fun b o e => by
  refine hidT_get (X b o e) ?_
  cases q : H b with
  | none => rfl
  | some u =>
    rcases S.what b u q with ⟨m, _⟩ | ⟨z, y, _⟩
    · rw [S.tK b m] at e; cases e
    · rw [z, y] at e; cases e
theorem Sta.env (S : Sta h K H a T) {P : Program} {w : World} {mb : Str → Option Value} {s : Shared} (hs : s.heap = h) (X : K.In h) (g : h.Ns mainGlobals mg) (bl : h.Ns builtinsNs mb) (bb : ∀ x : Str, x ≠ "__name__" → mb x = bootBuiltins x) (lim : h.NoLimit) (g0 : s.gens = #[]) (ok : HOk P w H h) :
    Env0 P w K mg (hidT h H) callerA [] s H := by
  subst hs
  obtain ⟨mc, l1, l2⟩ := lim
  exact ⟨rfl, ⟨S.frag X, S.dict g, ⟨mb, S.dict bl, bb⟩, ⟨mc, S.dict l1, l2⟩⟩, fun _ _ e => of_hidT e, Nat.le_of_eq (hidT_size _ _), trivial, fun b z => absurd z List.not_mem_nil, ok, .of_eq g0⟩
theorem Sta.sys (S : Sta h K H a T) {m : Str → Option Value} (n : h.Ns sysModules m) : SysB (hidT h H) := by
  obtain ⟨o, es, k, e, d, _⟩ := S.dict n
  exact ⟨o, es, k, e, d⟩
theorem Sta.table (S : Sta h K H a T) {c P : Addr} (hP : P ∈ T) (C : PySem.W.CodeHd h c P) (g : h.Ns mainGlobals mg)
    (bl : ∃ (bm : Addr) (ob : Obj), mg "__builtins__" = some (.ref bm) ∧ bm ≠ builtinsNs ∧ h.get? bm = some ob ∧ ob.cls = .type "module" ∧ ob.dict = some builtinsNs ∧ ob.data = .plain) : LamX.TabB (hidT h H) mg c P where
  code := by
    obtain ⟨o, vs, file, tf, flags, tg, inF, text, tt, e, q1, q2, q3, rest⟩ := C
    have d : o.data ≠ .fields #[] := fun z => by
      rw [q2] at z
      have y : vs = #[] := by injection z
      rw [y] at q3
      cases q3
    exact ⟨o, vs, file, tf, flags, tg, inF, text, tt, hidT_get e (S.free e d (by rw [q2]; exact fun _ _ z => nomatch z)), q1, q2, q3, rest⟩
  bm := by
    obtain ⟨bm, ob, b1, b2, b3, b4, b5, b6⟩ := bl
    obtain ⟨og, es, k, eg, dg, _⟩ := g
    refine ⟨bm, ob, b1, b2, fun z => ?_, fun z => ?_, hidT_get b3 (S.free b3 (by rw [b6]; exact fun z => nomatch z) (by rw [b6]; exact fun _ _ z => nomatch z)), b4, b5, b6⟩
    · rw [z, eg] at b3
      rw [← Option.some.inj b3, dg] at b6
      cases b6
    · have y := S.tobj P hP
      rw [← z, b3] at y
      rw [Option.some.inj y] at b6
      cases b6
  gP := fun z => by
    obtain ⟨og, es, k, eg, dg, _⟩ := g
    have y := S.tobj P hP
    rw [← z, eg] at y
    rw [Option.some.inj y] at dg
    cases dg
/-- behind the law's call all is as it was -/
theorem Sta.old (S : Sta h K H a T) {P : Program} {w : World} {H' : Hp} {h' : Heap} (C : ∀ b ∈ T, ∃ c, PySem.W.CodeHd h c b) (ok : HOk P w H h) (ok' : HOk P w H' h') (u : Un (frs []) [] H H' h h') : OldK h h' := by
  have tab : ∀ b ∈ T, ∃ more : Array Value, h'.get? b = some { cls := .none, data := .fields more } := fun b hb => by
    obtain ⟨more, z⟩ := u.tbls b _ (S.tabs b hb)
    exact ⟨_, ok' b _ z⟩
  have same : ∀ b o, b ∉ T → h.get? b = some o → h'.get? b = some o := fun b o nb e => by
    cases q : H b with
    | none => exact u.keep b o e q List.not_mem_nil List.not_mem_nil
    | some v =>
      rcases S.what b v q with ⟨m, _⟩ | ⟨_, _, ob, xs, rfl⟩
      · exact absurd m nb
      · have e1 := (ok b _ q).1
        rw [e] at e1
        rw [Option.some.inj e1]
        exact (ok' b _ (u.frzs b ob _ q)).1
  refine ⟨fun b o e => ?_, fun b o e => u.there b o e List.not_mem_nil⟩
  by_cases hb : b ∈ T
  · obtain ⟨more, z⟩ := tab b hb
    obtain ⟨c, hc⟩ := C b hb
    have y := S.tobj b hb
    rw [e] at y
    rw [Option.some.inj y]
    exact .inr (.inl ⟨(hc.tab (S.tobj b hb)).isCodeTable, rfl, #[], more, rfl, by rw [Array.empty_append]; exact z⟩)
  · exact .inl (same b o hb e)
end
/-- the script and the tables, tracked -/
theorem sta_mk {h : Heap} {K : PySem.W.Frag} {a : Addr} {T : List Addr} {its : List Value} {ns : List Int} {P : Program} {w : World} (X : K.In h) (ha : h.get? a = some { cls := .type "list", data := .seq its.toArray }) (hi : IntsAre its ns) (hl : ns.length ≤ sizeLine)
    (tobj : ∀ b ∈ T, h.get? b = some (PySem.W.tabObj #[])) (tK : ∀ b ∈ T, K.lookup b = none) : ∃ H, Sta h K H a T ∧ HOk P w H h ∧ SqL K H a (ns.map V.int) := by
  have rv := vals_ints hi
  have nT : a ∉ T := fun z => by
    have y := tobj a z
    rw [ha] at y
    cases y
  cases hk : K.lookup a with
  | some o =>
    obtain rfl := Option.some.inj (ha.symm.trans (X a o hk))
    refine ⟨fun b => if b ∈ T then some (.tbl #[]) else none, ⟨fun b u e => ?_, fun b hb => if_pos hb, tobj, tK, its, ha⟩, fun b u e => ?_, .inr ⟨_, its.toArray, _, hk, rfl, rfl, rfl, by rw [List.size_toArray, hi.length]; exact hl, by simpa using rv⟩⟩
    · try dsimp only at e
      by_cases hb : b ∈ T
      · rw [if_pos hb] at e
        exact .inl ⟨hb, (Option.some.inj e).symm⟩
      · rw [if_neg hb] at e; cases e
    · try dsimp only at e
      by_cases hb : b ∈ T
      · rw [if_pos hb] at e
        cases e
        exact tobj b hb
      · rw [if_neg hb] at e; cases e
  | none =>
    refine ⟨fun b => if b ∈ T then some (.tbl #[]) else if b = a then some (.frz { cls := .type "list", data := .seq its.toArray } (.lst (ns.map V.int))) else none, ⟨fun b u e => ?_, fun b hb => if_pos hb, tobj, tK, its, ha⟩, fun b u e => ?_, .inl (.inr ⟨_, (if_neg nT).trans (if_pos rfl)⟩)⟩
    · try dsimp only at e
      by_cases hb : b ∈ T
      · rw [if_pos hb] at e
        exact .inl ⟨hb, (Option.some.inj e).symm⟩
      · rw [if_neg hb] at e
        by_cases hc : b = a
        · rw [if_pos hc] at e
          exact .inr ⟨hc, hk, _, _, (Option.some.inj e).symm⟩
        · rw [if_neg hc] at e; cases e
    · try dsimp only at e
      by_cases hb : b ∈ T
      · rw [if_pos hb] at e
        cases e
        exact tobj b hb
      · rw [if_neg hb] at e
        by_cases hc : b = a
        · rw [if_pos hc] at e
          cases e
          rw [hc]
          exact ⟨ha, by rw [List.length_map]; exact hl, its, _, rv, ha⟩
        · rw [if_neg hc] at e; cases e
/-- what a law's proof hands to the end -/
def LawG (l : PySem.W.OpenLaw) (w : World) (K : PySem.W.Frag) (k n : Nat) (x : Str) (mg : Str → Option Value) (fa : Addr) (h : Heap) : Prop :=
  ∃ (fd : FuncData) (cs : List (Addr × Addr)) (sp : Sp), (∀ p ∈ cs, h.get? p.2 = some (PySem.W.tabObj #[]) ∧ K.lookup p.2 = none ∧ PySem.W.CodeHd h p.1 p.2) ∧ (∀ (s : Shared) (u : Value), BindsTo s fd ⟨[u], []⟩ [(x, u)]) ∧
    (∀ (H : Hp) (a : Addr) (ns : List Int), ns.length ≤ n → (∀ z ∈ ns, Builtin.Int.intBits z ≤ 1048576) → (∀ p ∈ cs, H p.2 = some (.tbl #[])) → SqL K H a (ns.map V.int) → sp [.ref a] H (fun v _ => v = .bl true) fun _ _ _ => False) ∧
    ∀ base : Heap, K.In base → base.Ns mainGlobals mg → SysB base → (∀ p ∈ cs, LamX.TabB base mg p.1 p.2) → FnG l.prog w K mg base (L2.CX l.prog w) k fa fd [x] sp
theorem no_cx {P : Program} {w : World} {H : Hp} {s : Shared} {e : Value} {s' : Shared} (h : L2.CX P w [] H s (fun _ _ _ => False) e s') : False := by
  obtain ⟨_, _, _, _, _, _, _, _, _, _, _, _, z⟩ := h
  exact z
/-- the end, the tables of the defs xs known to be empty -/
theorem walk_ofTop {l : PySem.W.OpenLaw} {n k : Nat} {q : Program} {loose : List Str} {XP : (Str → Option Value) → Heap → Prop} {YP : World → Heap → Prop} {d : DefRec} {K : Params → PySem.W.Frag} {x : Str} (xs : List Str)
    (hn : l.most = some n) (hn2 : n ≤ sizeLine) (hdf : d.params.defaults = []) (hr : RoomG k callerA) (hsys : PyProof.Rows.importsNone q = true) (hrec : (xs.all fun y => ((recsOf q).find? fun e => e.name == y).isSome) = true) (hY : ∀ (w : World) (h : Heap), YP w h → (K w.params).In h)
    (F : ∀ (w : World) (mg : Str → Option Value) (fa : Addr) (h : Heap), (K w.params).In h → h.Ns mainGlobals mg → mg d.name = some (.ref fa) → (∀ y ∈ xs, ∀ c P, PySem.W.tabIn (K w.params) y = some (c, P) → PySem.W.CodeHd h c P ∧ h.get? P = some (PySem.W.tabObj #[])) → LawG l w (K w.params) k n x mg fa h) :
    PySem.W.WalkO q loose XP YP l.row.toRowW d [] (fun f vs => PySem.call f vs) := by
  refine Att.attach_callB hn hdf fun w s₀ s₁ mg mb fa o pm cd doc a vs ns G Y ho hd hcd hmg hobj hints hlen hbits hg => ?_
  have KX := hY w _ Y
  have tabs : ∀ y ∈ xs, ∀ c P, PySem.W.tabIn (K w.params) y = some (c, P) → PySem.W.CodeHd s₁.heap c P ∧ s₁.heap.get? P = some (PySem.W.tabObj #[]) := fun y hy c P ht => by
    have hz := List.all_eq_true.mp hrec y hy
    cases hf : (recsOf q).find? fun e => e.name == y with
    | none => rw [hf] at hz; cases hz
    | some d' => exact PySem.W.tab_of G.T KX hf ht
  obtain ⟨fd, cs, sp, hc, hb, hsp, hF⟩ := F w mg fa _ KX G.T.g hmg tabs
  have inT : ∀ {b : Addr}, b ∈ cs.map (·.2) → ∃ p ∈ cs, p.2 = b := fun hb => List.mem_map.mp hb
  obtain ⟨H, S, ok, sq⟩ := sta_mk (T := cs.map (·.2)) (P := l.prog) (w := w) KX hobj hints (Nat.le_trans hlen hn2) (fun b hb => by obtain ⟨p, hp, rfl⟩ := inT hb; exact (hc p hp).1) (fun b hb => by obtain ⟨p, hp, rfl⟩ := inT hb; exact (hc p hp).2.1)
  have mem : ∀ p ∈ cs, p.2 ∈ cs.map (·.2) := fun p hp => List.mem_map.mpr ⟨p, hp, rfl⟩
  obtain ⟨mm, hmm, _⟩ := (G.T.seer hsys).mods
  have FG := hF (hidT s₁.heap H) (S.frag KX) (S.dict G.T.g) (S.sys hmm) fun p hp => S.table (mem p hp) (hc p hp).2.2 G.T.g G.T.bmain
  refine codeAny_mono (FG.run callerA [] s₁ H ⟨[.ref a], []⟩ [.ref a] [.ref a] _ _ hr (S.env rfl KX G.T.g G.T.b G.T.builtins G.T.nolimit hg ok) (hb s₁ (.ref a)) (.cons rfl .nil) (hsp H a ns hlen hbits (fun p hp => S.tabs _ (mem p hp)) sq)) fun r s' z => ?_
  cases r with
  | error e => exact (no_cx z).elim
  | ok fl =>
    cases fl with
    | next => exact False.elim z
    | brk => exact False.elim z
    | cont => exact False.elim z
    | ret v =>
      obtain ⟨y, H', z1, z2, z3, z4, z5, z6⟩ := z
      have z6 : y = .bl true := z6
      subst z6
      obtain rfl : v = Value.bool true := z5
      exact ⟨rfl, S.old (fun b hb => by obtain ⟨p, hp, rfl⟩ := inT hb; exact ⟨_, (hc p hp).2.2⟩) ok z4 z3, z1, z2⟩
/-- a law that is true of all scripts -/
theorem law_at {l : PySem.W.OpenLaw} {w : World} {K : PySem.W.Frag} {mg : Str → Option Value} {fa : Addr} {fd : FuncData} {h : Heap} {k : Nat} {L : Nat → Lam} {m : List D → G → R D} {x : Str} (cs : List (Addr × Addr)) (Tb : List (Addr × Str)) (hTb : ∀ q ∈ Tb, ∃ p ∈ cs, p.2 = q.1)
    (h1 : ∀ p ∈ cs, h.get? p.2 = some (PySem.W.tabObj #[]) ∧ K.lookup p.2 = none ∧ PySem.W.CodeHd h p.1 p.2) (hb : ∀ (s : Shared) (u : Value), BindsTo s fd ⟨[u], []⟩ [(x, u)])
    (hm : ∀ ns : List Int, ns.length ≤ 63 → (∀ z ∈ ns, Builtin.Int.intBits z ≤ 1048576) → ∃ g, m [.scr ns] [] = .ok (.bl true) g)
    (hF : ∀ base : Heap, K.In base → base.Ns mainGlobals mg → SysB base → (∀ p ∈ cs, LamX.TabB base mg p.1 p.2) → FnG l.prog w K mg base (L2.CX l.prog w) k fa fd [x] (spOf ⟨K, mg, L, Tb⟩ 1 m)) : LawG l w K k 63 x mg fa h := by
  refine ⟨fd, cs, _, h1, hb, fun H a ns hl hbit hH hS => ?_, hF⟩
  obtain ⟨g', e⟩ := hm ns hl hbit
  have hz : ns.length ≤ sizeLine := by rw [sizeLine_eq]; omega
  refine ⟨[], fun _ => False, [], [.scr ns], ⟨fun q hq => ?_, List.nodup_nil, fun a ha => (by cases ha), fun a z => z.elim, fun a ha => (by cases ha), fun a z => z.elim, .nil, rfl⟩, .cons ?_ .nil, rfl, ?_⟩
  · obtain ⟨p, hp, e1⟩ := hTb q hq
    exact LamX.TabS.nil (by rw [← e1]; exact hH p hp)
  · rcases hS with hS | ⟨o, its, n, q1, q2, q3, q4, q5, q6⟩
    · exact .scr hS hz (fun z => by cases z) (fun z => z)
    · exact .scrK q1 q2 q3 q4 q5 q6
  · rw [e]
    intro v H' r' b s q
    exact q.isBl
end GT

/-! GtT: what does not look at the shared objects. -/
namespace GT
open PySem PySem.Spec PyProof.Rows L2 RZ
def R.at {α : Type} : R α → G → R α
  | .ok a _, g => .ok a g
  | .exc c fs _, g => .exc c fs g
  | .stuck, _ => .stuck
/-- f does not look at the shared objects, nor change them -/
def Fr {α : Type} (f : G → R α) : Prop := ∀ g, f g = (f []).at g
def FrE {α : Type} (m : Ev → G → R α) : Prop := ∀ env, Fr (m env)
def FrF (F : List D → G → R D) : Prop := ∀ ds, Fr (F ds)
def FrL (LF : LFT) : Prop := ∀ n cs ds, Fr (LF n cs ds)
section
variable {α β : Type}
theorem Fr.ok {a : α} : Fr (fun g => R.ok a g) := fun _ => rfl
theorem Fr.st : Fr (fun _ => (R.stuck : R α)) := fun _ => rfl
theorem Fr.bind {f : G → R α} {k : α → G → R β} (h : Fr f) (hk : ∀ a, Fr (k a)) : Fr (fun g => (f g).bind k) := fun g => by
  show (f g).bind k = ((f []).bind k).at g
  have h0 := h []
  rw [h g]
  cases e : f [] with
  | stuck => rfl
  | exc c fs g' => rfl
  | ok a g' =>
    rw [e] at h0
    have eg : g' = [] := by
      have : R.ok a g' = R.ok a [] := h0
      cases this
      rfl
    subst eg
    exact hk a g
theorem Fr.nox {f : G → R α} (h : Fr f) : Fr (fun g => (f g).nox) := fun g => by
  show (f g).nox = ((f []).nox).at g
  rw [h g]
  cases f [] <;> rfl
theorem Fr.lift {o : Option α} : Fr (fun g => liftO o g) := by
  cases o
  · exact Fr.st
  · exact Fr.ok
theorem Fr.ite {c : Prop} [Decidable c] {f k : G → R α} (hf : Fr f) (hk : Fr k) : Fr (fun g => if c then f g else k g) := by
  by_cases h : c
  · simp only [h, if_true]; exact hf
  · simp only [h, if_false]; exact hk
end
theorem fr_var {i : Nat} : FrE (mVar i) := fun env => by
  unfold mVar
  cases env[i]? with
  | none => exact Fr.st
  | some s => cases s <;> first | exact Fr.ok | exact Fr.st
theorem fr_pk {i : Nat} : FrE (mPk i) := fun env => by
  unfold mPk
  cases env[i]? with
  | none => exact Fr.st
  | some s => cases s <;> first | exact Fr.ok | exact Fr.st
theorem fr_c {d : D} : FrE (mC d) := fun _ => Fr.ok
theorem fr_bin {f : D → D → Option D} {ma mb : ME} (ha : FrE ma) (hb : FrE mb) : FrE (mBin f ma mb) := fun env => Fr.bind (ha env) fun _ => Fr.bind (hb env) fun _ => Fr.lift
theorem fr_tst {m : ME} (h : FrE m) : FrE (mTst m) := fun env => Fr.bind (h env) fun d => by cases d <;> first | exact Fr.ok | exact Fr.st
theorem fr_chain {f f' : D → D → Option D} {ma mb mc : ME} (ha : FrE ma) (hb : FrE mb) (hc : FrE mc) : FrE (mChain f f' ma mb mc) := fun env => Fr.bind (ha env) fun _ => Fr.bind (hb env) fun _ => Fr.bind Fr.lift fun k => by
  cases k with
  | bl b =>
    cases b
    · exact Fr.ok
    · exact Fr.bind (hc env) fun _ => Fr.lift
  | _ => exact Fr.st
theorem fr_andT {ma mb : MT} (ha : FrE ma) (hb : FrE mb) : FrE (mAndT ma mb) := fun env => Fr.bind (ha env) fun _ => Fr.ite (hb env) Fr.ok
theorem fr_orT {ma mb : MT} (ha : FrE ma) (hb : FrE mb) : FrE (mOrT ma mb) := fun env => Fr.bind (ha env) fun _ => Fr.ite Fr.ok (hb env)
theorem fr_notT {ma : MT} (ha : FrE ma) : FrE (mNotT ma) := fun env => Fr.bind (ha env) fun _ => Fr.ok
theorem fr_if {c : MT} {ma mb : ME} (hc : FrE c) (ha : FrE ma) (hb : FrE mb) : FrE (mIf c ma mb) := fun env => Fr.bind (hc env) fun _ => Fr.ite (ha env) (hb env)
theorem fr_andV {ma mb : ME} (ha : FrE ma) (hb : FrE mb) : FrE (mAndV ma mb) := fun env => Fr.bind (ha env) fun d => by
  cases d with
  | bl b =>
    cases b
    · exact Fr.ok
    · exact hb env
  | _ => exact Fr.st
theorem fr_orV {ma mb : ME} (ha : FrE ma) (hb : FrE mb) : FrE (mOrV ma mb) := fun env => Fr.bind (ha env) fun d => by
  cases d with
  | bl b =>
    cases b
    · exact hb env
    · exact Fr.ok
  | _ => exact Fr.st
theorem fr_notV {ma : ME} (ha : FrE ma) : FrE (mNotV ma) := fun env => Fr.bind (ha env) fun d => by cases d <;> first | exact Fr.ok | exact Fr.st
theorem fr_nil : FrE mNil := fun _ => Fr.ok
theorem fr_cons {m : ME} {ms : MA} (h : FrE m) (hs : FrE ms) : FrE (mCons m ms) := fun env => Fr.bind (h env) fun _ => Fr.bind (hs env) fun _ => Fr.ok
theorem fr_tup {ms : MA} (h : FrE ms) : FrE (mTup ms) := fun env => Fr.bind (h env) fun _ => Fr.ite Fr.ok Fr.st
theorem fr_lst {ms : MA} (h : FrE ms) : FrE (mLst ms) := fun env => Fr.bind (h env) fun _ => Fr.ite Fr.ok Fr.st
theorem fr_no : FrE mNo := fun _ => Fr.ok
theorem fr_part {m : ME} (h : FrE m) : FrE (mPart m) := fun env => Fr.bind (h env) fun d => by cases d <;> first | exact Fr.ok | exact Fr.st
theorem fr_sl {m : ME} {ml mh : MO} (h : FrE m) (hl : FrE ml) (hh : FrE mh) : FrE (mSl m ml mh) := fun env => Fr.bind (h env) fun _ => Fr.bind (hl env) fun _ => Fr.bind (hh env) fun _ => Fr.lift
theorem fr_blt {f : List D → Option D} {ms : MA} (h : FrE ms) : FrE (mBlt f ms) := fun env => Fr.bind (h env) fun _ => Fr.lift
theorem fr_isi {t : String → Option Bool} {m : ME} (h : FrE m) : FrE (mIsi t m) := fun env => Fr.bind (h env) fun d => by
  cases d.ty with
  | none => exact Fr.st
  | some s =>
    dsimp only
    cases t s <;> first | exact Fr.ok | exact Fr.st
theorem fr_fn {n : Nat} {F : List D → G → R D} {ms : MA} (hF : FrF F) (h : FrE ms) : FrE (mFn n F ms) := fun env => Fr.bind (h env) fun ds => Fr.ite (hF ds) Fr.st
theorem fr_itL {m : ME} (h : FrE m) : FrE (mItL m) := fun env => Fr.bind (h env) fun d => by cases d <;> first | exact Fr.ok | exact Fr.st
theorem fr_itT {m : ME} (h : FrE m) : FrE (mItT m) := fun env => Fr.bind (h env) fun d => by cases d <;> first | exact Fr.ok | exact Fr.st
theorem fr_rg1 {m : ME} (h : FrE m) : FrE (mRg1 m) := fun env => Fr.bind (h env) fun d => by
  cases d with
  | int b => exact Fr.ite Fr.ok Fr.st
  | _ => exact Fr.st
theorem fr_rg2 {m m2 : ME} (h : FrE m) (h2 : FrE m2) : FrE (mRg2 m m2) := fun env => Fr.bind (h env) fun d => Fr.bind (h2 env) fun e => by
  cases d with
  | int a => cases e with
    | int b => exact Fr.ite Fr.ok Fr.st
    | _ => exact Fr.st
  | _ => exact Fr.st
theorem fr_lstI {m : MI} (h : FrE m) : FrE (mLstI m) := fun env => Fr.bind (h env) fun _ => Fr.ok
theorem fr_tupI {m : MI} (h : FrE m) : FrE (mTupI m) := fun env => Fr.bind (h env) fun _ => Fr.ok
theorem fr_enT {m : ME} (h : FrE m) : FrE (mEnT m) := fun env => Fr.bind (h env) fun d => by cases d <;> first | exact Fr.ok | exact Fr.st
theorem fr_enL {m : ME} (h : FrE m) : FrE (mEnL m) := fun env => Fr.bind (h env) fun d => by cases d <;> first | exact Fr.ok | exact Fr.st
theorem fr_zip {m m2 : ME} (h : FrE m) (h2 : FrE m2) : FrE (mZip m m2) := fun env => Fr.bind (h env) fun d => Fr.bind (h2 env) fun e => by cases d <;> cases e <;> first | exact Fr.ok | exact Fr.st
theorem fr_new {m : Ev → G → R (List D)} (h : FrE m) : FrE (mNew m) := fun env => Fr.bind (h env) fun _ => Fr.ok
theorem fr_compL {bind : Bnd} {mt : MT} {me : ME} (ht : FrE mt) (he : FrE me) (env : Ev) : ∀ ds, Fr (compL bind mt me env ds)
  | [] => Fr.ok
  | d :: ds => by
    show Fr (fun g => match bind d env with
      | none => .stuck
      | some env1 => (mt env1 g).nox.bind fun b g1 => if b then (me env1 g1).nox.bind fun y g2 => (compL bind mt me env ds g2).bind fun ys g3 => .ok (y :: ys) g3 else compL bind mt me env ds g1)
    cases bind d env with
    | none => exact Fr.st
    | some env1 => exact Fr.bind (ht env1).nox fun b => Fr.ite (Fr.bind (he env1).nox fun _ => Fr.bind (fr_compL ht he env ds) fun _ => Fr.ok) (fr_compL ht he env ds)
theorem fr_comp {vs : List Nat} {mi : MI} {bind : Bnd} {mt : MT} {me : ME} (hi : FrE mi) (ht : FrE mt) (he : FrE me) : FrE (mComp vs mi bind mt me) := fun env => Fr.bind (hi env) fun ds => fr_compL ht he _ ds
theorem fr_yes : FrE mYes := fun _ => Fr.ok
theorem fr_items {ms : MA} (h : FrE ms) : FrE (mItems ms) := fun env => Fr.bind (h env) fun _ => Fr.ite Fr.ok Fr.st
theorem fr_listN {m : ME} (h : FrE m) : FrE (mListN m) := fun env => Fr.bind (h env) fun d => by
  cases fList [d] with
  | none => exact Fr.st
  | some e => cases e <;> first | exact Fr.ok | exact Fr.st
theorem fr_neg {m : ME} (h : FrE m) : FrE (mNeg m) := fun env => Fr.bind (h env) fun d => by cases d <;> first | exact Fr.ok | exact Fr.st
/-! ### statements -/
theorem fr_seq {m1 m2 : MS} (h1 : FrE m1) (h2 : FrE m2) : FrE (mSeq m1 m2) := fun env => Fr.bind (h1 env) fun p => by
  obtain ⟨f, e⟩ := p
  cases f <;> first | exact h2 e | exact Fr.ok
theorem fr_skip : FrE mSkip := fun _ => Fr.ok
theorem fr_itO {i : Nat} : FrE (mItO i) := fun env => by
  unfold mItO
  cases env[i]? with
  | none => exact Fr.st
  | some s => cases s <;> first | exact Fr.ok | exact Fr.st
theorem fr_stop : FrE mStop := fun _ => Fr.st
theorem fr_ret {m : ME} (h : FrE m) : FrE (mRet m) := fun env => Fr.bind (h env) fun _ => Fr.ok
theorem fr_retN : FrE mRetN := fun _ => Fr.ok
theorem fr_exp {m : ME} (h : FrE m) : FrE (mExp m) := fun env => Fr.bind (h env) fun _ => Fr.ok
theorem fr_ifS {c : MT} {m1 m2 : MS} (hc : FrE c) (h1 : FrE m1) (h2 : FrE m2) : FrE (mIfS c m1 m2) := fun env => Fr.bind (hc env) fun _ => Fr.ite (h1 env) (h2 env)
theorem fr_asg {m : ME} {bind : Bnd} (h : FrE m) : FrE (mAsg m bind) := fun env => Fr.bind (h env) fun d => by cases bind d env <;> first | exact Fr.ok | exact Fr.st
theorem fr_par {i j : Nat} {ms : MA} (h : FrE ms) : FrE (mPar i j ms) := fun env => Fr.bind (h env) fun ds => by
  cases ds with
  | nil => exact Fr.st
  | cons d ds => cases ds with
    | nil => exact Fr.st
    | cons e ds => cases ds <;> first | exact Fr.ok | exact Fr.st
theorem fr_setO {i : Nat} {m : Ev → G → R (List D)} (h : FrE m) : FrE (mSetO i m) := fun env => Fr.bind (h env) fun _ => Fr.ok
theorem fr_frz {i : Nat} {m : MS} (h : FrE m) : FrE (mFrz i m) := fun env => h _
theorem fr_app {i : Nat} {m : ME} (h : FrE m) : FrE (mApp i m) := fun env => by
  unfold mApp
  cases env[i]? with
  | none => exact Fr.st
  | some s => cases s <;> first | exact Fr.bind (h env) fun _ => Fr.ite Fr.ok Fr.st | exact Fr.st
theorem fr_ext {i : Nat} {m : ME} (h : FrE m) : FrE (mExt i m) := fun env => by
  unfold mExt
  cases env[i]? with
  | none => exact Fr.st
  | some s =>
    cases s <;> first | exact Fr.st | skip
    refine Fr.bind (h env) fun d => ?_
    cases d <;> first | exact Fr.ite Fr.ok Fr.st | exact Fr.st
theorem fr_pop {i j : Nat} : FrE (mPop i j) := fun env => by
  unfold mPop
  cases env[j]? with
  | none => exact Fr.st
  | some s =>
    cases s <;> first | exact Fr.st | skip
    rename_i ds
    dsimp only
    cases ds[ds.length - 1]? <;> first | exact Fr.ok | exact Fr.st
theorem fr_forL {bind : Bnd} {body : MS} (h : FrE body) : ∀ ds env, Fr (forL bind body ds env)
  | [], _ => Fr.ok
  | d :: ds, env => by
    show Fr (fun g => match bind d env with
      | none => .stuck
      | some env1 => (body env1 g).bind fun p g1 => match p with
        | (.nx, env2) => forL bind body ds env2 g1
        | (.ct, env2) => forL bind body ds env2 g1
        | (.bk, env2) => .ok (.nx, env2) g1
        | (.rt d, env2) => .ok (.rt d, env2) g1)
    cases bind d env with
    | none => exact Fr.st
    | some env1 =>
      refine Fr.bind (h env1) fun p => ?_
      obtain ⟨f, e⟩ := p
      cases f <;> first | exact fr_forL h ds e | exact Fr.ok
theorem fr_for {mi : MI} {bind : Bnd} {body : MS} (hi : FrE mi) (h : FrE body) : FrE (mFor mi bind body) := fun env => Fr.bind (hi env) fun ds => fr_forL h ds env
theorem fr_whileL {mt : MT} {body : MS} (ht : FrE mt) (h : FrE body) : ∀ n env, Fr (whileL mt body n env)
  | 0, _ => Fr.st
  | n + 1, env => by
    refine Fr.bind (ht env) fun b => Fr.ite (Fr.bind (h env) fun p => ?_) Fr.ok
    obtain ⟨f, e⟩ := p
    cases f <;> first | exact fr_whileL ht h n e | exact Fr.ok
theorem fr_while {n : Nat} {mt : MT} {body : MS} (ht : FrE mt) (h : FrE body) : FrE (mWhile n mt body) := fun env => fr_whileL ht h n env
theorem fr_aug {f : Int → Int → Int} {i : Nat} {m : ME} (h : FrE m) : FrE (mAug f i m) := fun env => by
  unfold mAug
  cases env[i]? with
  | none => exact Fr.st
  | some s =>
    cases s <;> first | exact Fr.st | skip
    rename_i d
    cases d <;> first | exact Fr.st | skip
    refine Fr.bind (h env) fun e => ?_
    cases e <;> first | exact Fr.ok | exact Fr.st
theorem fr_def {n : Nat} {m : MS} (h : FrE m) : FrF (mDef n m) := fun ds g => by
  have h0 := h (ev0 n ds) g
  show mDef n m ds g = (mDef n m ds []).at g
  unfold mDef
  rw [h0]
  cases m (ev0 n ds) [] with
  | stuck => rfl
  | exc c fs g' => rfl
  | ok p g' =>
    obtain ⟨f, e⟩ := p
    cases f <;> rfl
/-! ### lambdas, dicts -/
theorem fr_lam {n : Nat} {df : Option Int} {m : ME} (h : FrE m) (cs ds : List D) : Fr (mLam n df m cs ds) := Fr.ite (h _) Fr.st
theorem fr_callV {LF : LFT} {i : Nat} {ms : MA} (hL : FrL LF) (h : FrE ms) : FrE (mCallV LF i ms) := fun env => by
  unfold mCallV
  cases env[i]? with
  | none => exact Fr.st
  | some s =>
    cases s <;> first | exact Fr.st | skip
    rename_i d
    cases d <;> first | exact Fr.st | exact Fr.bind (h env) fun ds => hL _ _ _
theorem fr_finC {f : G → R D} (h : Fr f) : Fr (fun g => finC (f g)) := fun g => by
  show finC (f g) = (finC (f [])).at g
  rw [h g]
  cases f [] with
  | stuck => rfl
  | ok d g' =>
    show (if d.nc = true then _ else _) = R.at (if d.nc = true then _ else _) g
    split <;> rfl
  | exc c fs g' =>
    show (if D.ncs (fs.map (·.2)) = true then _ else _) = R.at (if D.ncs (fs.map (·.2)) = true then _ else _) g
    split <;> rfl
theorem fr_lamcall {n nl : Nat} {js : List Nat} {F : List D → G → R D} {ms : MA} (hF : FrF F) (h : FrE ms) : FrE (mLamCall n nl js F ms) := fun env => Fr.bind (h env) fun ds => by
  cases capsD js env with
  | none => exact Fr.st
  | some cs => exact Fr.ite (fr_finC (hF _)) Fr.st
theorem fr_newD {m : MD} (h : FrE m) : FrE (mNewD m) := fun env => Fr.bind (h env) fun _ => Fr.ok
theorem fr_setD {i : Nat} {m : MD} (h : FrE m) : FrE (mSetD i m) := fun env => Fr.bind (h env) fun _ => Fr.ok
theorem fr_d0 {s : DS} : FrE (mD0 s) := fun _ => Fr.ok
theorem fr_dcL {bind : Bnd} {mt : MT} {mk mv : ME} (ht : FrE mt) (hk : FrE mk) (hv : FrE mv) (env : Ev) : ∀ ds acc, Fr (dcL bind mt mk mv env ds acc)
  | [], _ => Fr.ok
  | d :: ds, acc => by
    show Fr (fun g => match bind d env with
      | none => .stuck
      | some env1 => (mt env1 g).nox.bind fun b g1 => if b then (mk env1 g1).nox.bind fun k g2 => (mv env1 g2).nox.bind fun v g3 => match acc.put k v with
        | some acc' => dcL bind mt mk mv env ds acc' g3
        | none => .stuck else dcL bind mt mk mv env ds acc g1)
    cases bind d env with
    | none => exact Fr.st
    | some env1 =>
      refine Fr.bind (ht env1).nox fun b => Fr.ite (Fr.bind (hk env1).nox fun k => Fr.bind (hv env1).nox fun v => ?_) (fr_dcL ht hk hv env ds acc)
      cases acc.put k v with
      | none => exact Fr.st
      | some acc' => exact fr_dcL ht hk hv env ds acc'
theorem fr_dc {s0 : DS} {vs : List Nat} {mi : MI} {bind : Bnd} {mt : MT} {mk mv : ME} (hi : FrE mi) (ht : FrE mt) (hk : FrE mk) (hv : FrE mv) : FrE (mDc s0 vs mi bind mt mk mv) := fun env => Fr.bind (hi env) fun ds => fr_dcL ht hk hv _ ds _
theorem fr_put {i : Nat} {mk mv : ME} (hk : FrE mk) (hv : FrE mv) : FrE (mPut i mk mv) := fun env => by
  unfold mPut
  cases (env[i]?).bind dsOf with
  | none => exact Fr.st
  | some s =>
    refine Fr.bind (hv env) fun v => Fr.bind (hk env) fun k => ?_
    cases s.put k v <;> first | exact Fr.ok | exact Fr.st
theorem fr_compI {bind : Bnd} {mt : MT} {me : ME} (ht : FrE mt) (he : FrE me) (env : Ev) : ∀ ds acc, Fr (compI bind mt me env ds acc)
  | [], _ => Fr.ok
  | d :: ds, acc => by
    show Fr (fun g => match bind d env with
      | none => .stuck
      | some env1 => (mt env1 g).nox.bind fun b g1 => if b then (me env1 g1).nox.bind fun y g2 => if acc.length < 1000000 then compI bind mt me env ds (acc ++ [y]) g2 else .stuck else compI bind mt me env ds acc g1)
    cases bind d env with
    | none => exact Fr.st
    | some env1 => exact Fr.bind (ht env1).nox fun b => Fr.ite (Fr.bind (he env1).nox fun _ => Fr.ite (fr_compI ht he env ds _) Fr.st) (fr_compI ht he env ds acc)
theorem fr_compO {bind : Bnd} {mt : MT} {mi1 : MI} {bind1 : Bnd} {mt1 : MT} {me : ME} {vs1 : List Nat} (ht : FrE mt) (hi : FrE mi1) (ht1 : FrE mt1) (he : FrE me) (env : Ev) : ∀ ds acc, Fr (compO bind mt mi1 bind1 mt1 me vs1 env ds acc)
  | [], _ => Fr.ok
  | d :: ds, acc => by
    show Fr (fun g => match bind d env with
      | none => .stuck
      | some env1 => (mt env1 g).nox.bind fun b g1 => if b then (mi1 env1 g1).nox.bind fun ds1 g2 => (compI bind1 mt1 me (wipeE env1 vs1) ds1 acc g2).bind fun acc' g3 => compO bind mt mi1 bind1 mt1 me vs1 env ds acc' g3 else compO bind mt mi1 bind1 mt1 me vs1 env ds acc g1)
    cases bind d env with
    | none => exact Fr.st
    | some env1 => exact Fr.bind (ht env1).nox fun b => Fr.ite (Fr.bind (hi env1).nox fun ds1 => Fr.bind (fr_compI ht1 he _ ds1 acc) fun acc' => fr_compO ht hi ht1 he env ds acc') (fr_compO ht hi ht1 he env ds acc)
theorem fr_comp2 {vs vs1 : List Nat} {mi mi1 : MI} {bind bind1 : Bnd} {mt mt1 : MT} {me : ME} (hi : FrE mi) (ht : FrE mt) (hi1 : FrE mi1) (ht1 : FrE mt1) (he : FrE me) : FrE (mComp2 vs vs1 mi bind mt mi1 bind1 mt1 me) := fun env => Fr.bind (hi env) fun ds => fr_compO ht hi1 ht1 he _ ds []
/-- it is true -/
def isT : R D → Bool
  | .ok (.bl true) _ => true
  | _ => false
theorem fr_true {F : List D → G → R D} (h : FrF F) {ds : List D} (e : isT (F ds []) = true) (g : G) : F ds g = .ok (.bl true) g := by
  rw [h ds g]
  revert e
  cases F ds [] with
  | ok d g' =>
    cases d with
    | bl b =>
      cases b
      · intro e; cases e
      · intro e; rfl
    | _ => intro e; cases e
  | _ => intro e; cases e
end GT

/-! GtU: the laws' draws. -/
namespace GT
open PySem PySem.Spec PyProof.Rows L2 RZ
def mBegun : List D → G → R D := mDef 3 (mSeq (mAsg (mC (.int 11)) (bName 1)) (mSeq (mFor (mItL (mVar 0)) (bName 2) (mAsg (mBin fMod (mBlt fInt1 (mCons (mBin fAdd (mBin fAdd (mBin fMul (mPk 1) (mC (.int 69621))) (mBin fMod (mBlt fInt1 (mCons (mPk 2) (mNil))) (mC (.int 2147483629)))) (mC (.int 7))) (mNil))) (mC (.int 2147483647))) (bName 1))) (mRet (mDisp [(.inr "great", mNew (mComp [2] (mItL (mVar 0)) (bName 2) (mTst (mBin fGe (mPk 2) (mBin fPow (mC (.int 10)) (mC (.int 18))))) (mVar 2))), (.inr "seed", mVar 1), (.inr "turns", mC (.int 0))]))))
def mDraw : List D → G → R D := mDef 4 (mSeq (mWhile 70 (mAndT (mTst (mBin fNe (mGet (mVar 0) (.inr "great")) (mNew (mItems (mNil))))) (mTst (mBin fEq (mBin fIx (mGet (mVar 0) (.inr "great")) (mC (.int 0))) (mC (.int 0))))) (mGPut 0 (.inr "great") (mSl (mGet (mVar 0) (.inr "great")) (mPart (mC (.int 1))) (mNo)))) (mSeq (mIfS (mTst (mBin fNe (mGet (mVar 0) (.inr "great")) (mNew (mItems (mNil))))) (mSeq (mAsg (mBin fIx (mGet (mVar 0) (.inr "great")) (mC (.int 0))) (bName 3)) (mSeq (mGPut 0 (.inr "great") (mBin fAdd (mNew (mItems (mCons (mBin fDiv (mPk 3) (mPk 1)) (mNil)))) (mSl (mGet (mVar 0) (.inr "great")) (mPart (mC (.int 1))) (mNo)))) (mRet (mBin fMod (mBlt fInt1 (mCons (mPk 3) (mNil))) (mPk 1))))) (mSkip)) (mSeq (mGPut 0 (.inr "turns") (mBin fAdd (mGet (mVar 0) (.inr "turns")) (mC (.int 1)))) (mSeq (mAsg (mBin fMod (mBlt fInt1 (mCons (mBin fAdd (mBin fAdd (mBin fMul (mGet (mVar 0) (.inr "seed")) (mC (.int 48271))) (mBin fMul (mBin fMul (mGet (mVar 0) (.inr "turns")) (mGet (mVar 0) (.inr "turns"))) (mC (.int 16807)))) (mGet (mVar 0) (.inr "turns"))) (mNil))) (mC (.int 2147483647))) (bName 2)) (mSeq (mAsg (mBin fMod (mBlt fInt1 (mCons (mBin fAdd (mBin fMul (mPk 2) (mC (.int 69621))) (mC (.int 12345))) (mNil))) (mC (.int 2147483629))) (bName 2)) (mRet (mBin fMod (mBin fDiv (mBin fMod (mBlt fInt1 (mCons (mBin fAdd (mBin fMul (mPk 2) (mC (.int 40014))) (mGet (mVar 0) (.inr "turns"))) (mNil))) (mC (.int 2147483563))) (mC (.int 64))) (mPk 1))))))))
def gS (gs : List Int) (s t : Int) : GO := .dct [(.inr "great", .lst (gs.map .int)), (.inr "seed", .int s), (.inr "turns", .int t)]
def seedOf (s : Int) : List Int → Int
  | [] => s
  | n :: ns => seedOf ((s * 69621 + n % 2147483629 + 7) % 2147483647) ns
theorem ints_py : ∀ gs : List Int, D.pys (gs.map .int) = some (gs.map .int)
  | [] => rfl
  | g :: gs => by rw [List.map_cons, D.pys, ints_py gs]; rfl
theorem ints_lay : ∀ gs : List Int, PyData.canLayAll0 (gs.map .int) = true
  | [] => rfl
  | g :: gs => by rw [List.map_cons, PyData.canLayAll0, ints_lay gs]; rfl
theorem ints_depth : ∀ gs : List Int, PyData.depthAll (gs.map .int) = 0
  | [] => rfl
  | g :: gs => by rw [List.map_cons, PyData.depthAll, ints_depth gs]; rfl
theorem ints_shaped (gs : List Int) : SeqAt.shaped (.list (gs.map .int)) = true := by
  unfold SeqAt.shaped
  rw [PyData.canLay0, PyData.depth, ints_lay, ints_depth]
  decide
theorem eqv_nil (gs : List Int) : D.eqv (.lst (gs.map .int)) (.lst []) = some gs.isEmpty := by
  unfold D.eqv
  rw [D.py, D.py, ints_py]
  simp only [Option.map_some, D.pys]
  rw [ints_shaped]
  cases gs <;> rfl
theorem eqv_int (i j : Int) : D.eqv (.int i) (.int j) = some (i == j) := rfl
theorem fNe_nil (gs : List Int) : fNe (.lst (gs.map .int)) (.lst []) = some (.bl (!gs.isEmpty)) := by unfold fNe; rw [eqv_nil]; rfl
theorem fEq_int (i j : Int) : fEq (.int i) (.int j) = some (.bl (i == j)) := rfl
theorem at_great {g : G} {n : Nat} {gs : List Int} {s t : Int} (h : g[n]? = some (gS gs s t)) : gAt g (.gr n) (.inr "great") = some (.lst (gs.map .int)) := by
  simp only [gAt, h, gS]; rfl
theorem at_seed {g : G} {n : Nat} {gs : List Int} {s t : Int} (h : g[n]? = some (gS gs s t)) : gAt g (.gr n) (.inr "seed") = some (.int s) := by
  simp only [gAt, h, gS]; rfl
theorem at_turns {g : G} {n : Nat} {gs : List Int} {s t : Int} (h : g[n]? = some (gS gs s t)) : gAt g (.gr n) (.inr "turns") = some (.int t) := by
  simp only [gAt, h, gS]; rfl
theorem ncs_ints : ∀ gs : List Int, D.ncs (gs.map .int) = true
  | [] => rfl
  | g :: gs => by rw [List.map_cons, D.ncs, ncs_ints gs]; rfl
theorem put_great {g : G} {n : Nat} {gs gs' : List Int} {s t : Int} (h : g[n]? = some (gS gs s t)) : gPut g (.gr n) (.inr "great") (.lst (gs'.map .int)) = some (g.set n (gS gs' s t)) := by
  simp only [gPut, h, gS, D.nc, ncs_ints]; rfl
theorem put_turns {g : G} {n : Nat} {gs : List Int} {s t t' : Int} (h : g[n]? = some (gS gs s t)) : gPut g (.gr n) (.inr "turns") (.int t') = some (g.set n (gS gs s t')) := by
  simp only [gPut, h, gS, D.nc]; rfl
theorem cut1 (gs : List Int) : cutD (gs.map D.int) (some 1) none = (gs.drop 1).map D.int := by
  cases gs with
  | nil => rfl
  | cons a gs =>
    unfold cutD
    simp [HT.sIx]
    rw [List.take_of_length_le (by simp)]
theorem get_set {g : G} {n : Nat} {a b : GO} (h : g[n]? = some a) : (g.set n b)[n]? = some b := by
  obtain ⟨hl, _⟩ := List.getElem?_eq_some_iff.mp h
  rw [List.getElem?_set_self hl]
theorem set_same {g : G} {n : Nat} {a : GO} (h : g[n]? = some a) : g.set n a = g := by
  obtain ⟨hl, e⟩ := List.getElem?_eq_some_iff.mp h
  rw [← e]
  exact List.set_getElem_self hl
theorem atI_0 {α : Type} {a : α} {l : List α} : atI (a :: l) 0 = some a := by
  unfold atI ixN
  simp
/-! ### the parts of the draw -/
abbrev dGreat : ME := mGet (mVar 0) (.inr "great")
abbrev dT : MT := mAndT (mTst (mBin fNe dGreat (mNew (mItems (mNil))))) (mTst (mBin fEq (mBin fIx dGreat (mC (.int 0))) (mC (.int 0))))
abbrev dB : MS := mGPut 0 (.inr "great") (mSl dGreat (mPart (mC (.int 1))) (mNo))
section
variable {g : G} {n : Nat} {gs : List Int} {s t lim : Int} {x y : Slot}
abbrev dE (n : Nat) (lim : Int) (x y : Slot) : Ev := [.val (.gr n), .val (.int lim), x, y]
theorem ev_great (h : g[n]? = some (gS gs s t)) : dGreat (dE n lim x y) g = .ok (.lst (gs.map .int)) g := by
  show (liftO (gAt g (.gr n) (.inr "great")) g) = _
  rw [at_great h]; rfl
theorem ev_ne (h : g[n]? = some (gS gs s t)) : (mTst (mBin fNe dGreat (mNew (mItems (mNil))))) (dE n lim x y) g = .ok (!gs.isEmpty) g := by
  show R.bind (R.bind (dGreat (dE n lim x y) g) _) _ = _
  rw [ev_great h]
  show R.bind (liftO (fNe (.lst (gs.map .int)) (.lst [])) g) _ = _
  rw [fNe_nil]; rfl
theorem ev_first {a : Int} (h : g[n]? = some (gS (a :: gs) s t)) : (mBin fIx dGreat (mC (.int 0))) (dE n lim x y) g = .ok (.int a) g := by
  show R.bind (dGreat (dE n lim x y) g) _ = _
  rw [ev_great h]
  show liftO (atI (D.int a :: gs.map D.int) 0) g = _
  rw [atI_0]; rfl
theorem ev_t0 (h : g[n]? = some (gS [] s t)) : dT (dE n lim x y) g = .ok false g := by
  show R.bind ((mTst (mBin fNe dGreat (mNew (mItems (mNil))))) (dE n lim x y) g) _ = _
  rw [ev_ne h]; rfl
theorem ev_t1 {a : Int} (h : g[n]? = some (gS (a :: gs) s t)) : dT (dE n lim x y) g = .ok (a == 0) g := by
  show R.bind ((mTst (mBin fNe dGreat (mNew (mItems (mNil))))) (dE n lim x y) g) _ = _
  rw [ev_ne h]
  show R.bind (R.bind ((mBin fIx dGreat (mC (.int 0))) (dE n lim x y) g) _) _ = _
  rw [ev_first h]; rfl
theorem ev_rest (h : g[n]? = some (gS gs s t)) : (mSl dGreat (mPart (mC (.int 1))) (mNo)) (dE n lim x y) g = .ok (.lst ((gs.drop 1).map .int)) g := by
  show R.bind (dGreat (dE n lim x y) g) _ = _
  rw [ev_great h]
  show liftO (some (D.lst (cutD (gs.map D.int) (some 1) none))) g = _
  rw [cut1]; rfl
theorem ev_b (h : g[n]? = some (gS gs s t)) : dB (dE n lim x y) g = .ok (.nx, dE n lim x y) (g.set n (gS (gs.drop 1) s t)) := by
  show R.bind ((mSl dGreat (mPart (mC (.int 1))) (mNo)) (dE n lim x y) g) (fun v g1 => match gPut g1 (.gr n) (.inr "great") v with
    | some g2 => R.ok (Fl.nx, dE n lim x y) g2
    | none => .stuck) = _
  rw [ev_rest h]
  show (match gPut g (.gr n) (.inr "great") (.lst ((gs.drop 1).map .int)) with
    | some g2 => R.ok (Fl.nx, dE n lim x y) g2
    | none => .stuck) = _
  rw [put_great h]
theorem ev_while : ∀ (gs : List Int) (m : Nat) (g : G), gs.length < m → g[n]? = some (gS gs s t) → whileL dT dB m (dE n lim x y) g = .ok (.nx, dE n lim x y) (g.set n (gS (gs.dropWhile (· == 0)) s t))
  | [], m + 1, g, _, h => by
    rw [whileL, ev_t0 h]
    show R.ok _ g = _
    rw [List.dropWhile_nil, set_same h]
  | a :: gs, m + 1, g, hl, h => by
    rw [whileL, ev_t1 h]
    by_cases e : (a == 0) = true
    · show R.bind (.ok (a == 0) g) _ = _
      rw [e]
      show R.bind (dB (dE n lim x y) g) _ = _
      rw [ev_b h]
      show whileL dT dB m (dE n lim x y) (g.set n (gS gs s t)) = _
      rw [ev_while gs m _ (by simp only [List.length_cons] at hl; omega) (get_set h), List.set_set, List.dropWhile_cons, if_pos e]
    · have e' : (a == 0) = false := by simpa using e
      rw [e', List.dropWhile_cons, if_neg (by rw [e']; exact Bool.false_ne_true), set_same h]
      rfl
theorem ev_get {env : Ev} {k : Key} {d : D} (he : env[0]? = some (.val (.gr n))) (h : gAt g (.gr n) k = some d) : mGet (mVar 0) k env g = .ok d g := by
  unfold mGet mVar
  rw [he]
  show liftO (gAt g (.gr n) k) g = _
  rw [h]; rfl
theorem ev_bin {f : D → D → Option D} {ma mb : ME} {env : Ev} {a b d : D} {g1 g2 : G} (ha : ma env g = .ok a g1) (hb : mb env g1 = .ok b g2) (hf : f a b = some d) : mBin f ma mb env g = .ok d g2 := by
  unfold mBin
  rw [ha]
  show R.bind (mb env g1) _ = _
  rw [hb]
  show liftO (f a b) g2 = _
  rw [hf]; rfl
theorem ev_int1 {m : ME} {env : Ev} {i : Int} {g1 : G} (h : m env g = .ok (.int i) g1) : mBlt fInt1 (mCons m (mNil)) env g = .ok (.int i) g1 := by
  unfold mBlt mCons
  rw [h]; rfl
theorem fMul_r {i j : Int} (h : -(2 ^ 64) < j ∧ j < 2 ^ 64) : fMul (.int i) (.int j) = some (.int (i * j)) := by
  show (if (decide (-(2 ^ 64) < i) && decide (i < 2 ^ 64)) || (decide (-(2 ^ 64) < j) && decide (j < 2 ^ 64)) then some (D.int (i * j)) else none) = _
  rw [decide_eq_true h.1, decide_eq_true h.2, Bool.and_self, Bool.or_true, if_pos rfl]
theorem fMod_p {i j : Int} (h : 0 < j) : fMod (.int i) (.int j) = some (.int (i % j)) := by
  unfold fMod fInt
  simp [h]
theorem fDiv_p {i j : Int} (h : 0 < j) (h2 : j < 1073741824) : fDiv (.int i) (.int j) = some (.int (i / j)) := by
  unfold fDiv fInt
  simp [h, h2]
theorem ev_gput {i : Nat} {k : Key} {mv : ME} {env : Ev} {d v : D} {g1 g2 : G} (he : env[i]? = some (.val d)) (hv : mv env g = .ok v g1) (hp : gPut g1 d k v = some g2) : mGPut i k mv env g = .ok (.nx, env) g2 := by
  unfold mGPut
  rw [he]
  show R.bind (mv env g) _ = _
  rw [hv]
  show (match gPut g1 d k v with
    | some g2 => R.ok (Fl.nx, env) g2
    | none => .stuck) = _
  rw [hp]
theorem ev_asg {i : Nat} {m : ME} {env : Ev} {d : D} {g1 : G} (h : m env g = .ok d g1) : mAsg m (bName i) env g = .ok (.nx, env.set i (.val d)) g1 := by
  unfold mAsg
  rw [h]; rfl
theorem ev_seq {m1 m2 : MS} {env env1 : Ev} {g1 : G} (h : m1 env g = .ok (.nx, env1) g1) : mSeq m1 m2 env g = m2 env1 g1 := by
  unfold mSeq
  rw [h]; rfl
theorem ev_ret {m : ME} {env : Ev} {d : D} {g1 : G} (h : m env g = .ok d g1) : mRet m env g = .ok (.rt d, env) g1 := by
  unfold mRet
  rw [h]; rfl
abbrev dTurns : ME := mGet (mVar 0) (.inr "turns")
abbrev dEnd : MS := mSeq (mGPut 0 (.inr "turns") (mBin fAdd dTurns (mC (.int 1)))) (mSeq (mAsg (mBin fMod (mBlt fInt1 (mCons (mBin fAdd (mBin fAdd (mBin fMul (mGet (mVar 0) (.inr "seed")) (mC (.int 48271))) (mBin fMul (mBin fMul dTurns dTurns) (mC (.int 16807)))) dTurns) (mNil))) (mC (.int 2147483647))) (bName 2)) (mSeq (mAsg (mBin fMod (mBlt fInt1 (mCons (mBin fAdd (mBin fMul (mPk 2) (mC (.int 69621))) (mC (.int 12345))) (mNil))) (mC (.int 2147483629))) (bName 2)) (mRet (mBin fMod (mBin fDiv (mBin fMod (mBlt fInt1 (mCons (mBin fAdd (mBin fMul (mPk 2) (mC (.int 40014))) dTurns) (mNil))) (mC (.int 2147483563))) (mC (.int 64))) (mPk 1)))))
abbrev dGr : MS := mSeq (mAsg (mBin fIx dGreat (mC (.int 0))) (bName 3)) (mSeq (mGPut 0 (.inr "great") (mBin fAdd (mNew (mItems (mCons (mBin fDiv (mPk 3) (mPk 1)) (mNil)))) (mSl dGreat (mPart (mC (.int 1))) (mNo)))) (mRet (mBin fMod (mBlt fInt1 (mCons (mPk 3) (mNil))) (mPk 1))))
theorem ev_end (h : g[n]? = some (gS gs s t)) (ht : 0 ≤ t) (ht2 : t < 2 ^ 60) (hl : 0 < lim) : ∃ r env, dEnd (dE n lim x y) g = .ok (.rt (.int r), env) (g.set n (gS gs s (t + 1))) ∧ 0 ≤ r ∧ r < lim := by
  have e0 : (dE n lim x y)[0]? = some (.val (.gr n)) := rfl
  have h1 : (g.set n (gS gs s (t + 1)))[n]? = some (gS gs s (t + 1)) := get_set h
  have tr : -(2 ^ 64) < t + 1 ∧ t + 1 < 2 ^ 64 := by omega
  obtain ⟨g1, eg1⟩ : ∃ g1, g1 = g.set n (gS gs s (t + 1)) := ⟨_, rfl⟩
  rw [← eg1] at h1 ⊢
  have tn : ∀ env : Ev, env[0]? = some (.val (.gr n)) → dTurns env g1 = .ok (.int (t + 1)) g1 := fun env he => ev_get he (at_turns h1)
  have A1 : mGPut 0 (.inr "turns") (mBin fAdd dTurns (mC (.int 1))) (dE n lim x y) g = .ok (.nx, dE n lim x y) g1 := by
    rw [eg1]
    exact ev_gput e0 (ev_bin (ev_get e0 (at_turns h)) rfl rfl) (put_turns h)
  obtain ⟨a, ea⟩ : ∃ a, a = (s * 48271 + (t + 1) * (t + 1) * 16807 + (t + 1)) % 2147483647 := ⟨_, rfl⟩
  have A2 : mAsg (mBin fMod (mBlt fInt1 (mCons (mBin fAdd (mBin fAdd (mBin fMul (mGet (mVar 0) (.inr "seed")) (mC (.int 48271))) (mBin fMul (mBin fMul dTurns dTurns) (mC (.int 16807)))) dTurns) (mNil))) (mC (.int 2147483647))) (bName 2) (dE n lim x y) g1 = .ok (.nx, dE n lim (.val (.int a)) y) g1 := by
    rw [ea]
    exact ev_asg (ev_bin (ev_int1 (ev_bin (ev_bin (ev_bin (ev_get e0 (at_seed h1)) rfl (fMul_r (by omega))) (ev_bin (ev_bin (tn _ e0) (tn _ e0) (fMul_r tr)) rfl (fMul_r (by omega))) rfl) (tn _ e0) rfl)) rfl (fMod_p (by omega)))
  obtain ⟨b, eb⟩ : ∃ b, b = (a * 69621 + 12345) % 2147483629 := ⟨_, rfl⟩
  have A3 : mAsg (mBin fMod (mBlt fInt1 (mCons (mBin fAdd (mBin fMul (mPk 2) (mC (.int 69621))) (mC (.int 12345))) (mNil))) (mC (.int 2147483629))) (bName 2) (dE n lim (.val (.int a)) y) g1 = .ok (.nx, dE n lim (.val (.int b)) y) g1 := by
    rw [eb]
    exact ev_asg (ev_bin (ev_int1 (ev_bin (ev_bin (show mPk 2 (dE n lim (.val (.int a)) y) g1 = .ok (.int a) g1 from rfl) rfl (fMul_r (by omega))) rfl rfl)) rfl (fMod_p (by omega)))
  have e1 : (dE n lim (.val (.int b)) y)[0]? = some (.val (.gr n)) := rfl
  have A4 := ev_ret (ev_bin (ev_bin (ev_bin (ev_int1 (ev_bin (ev_bin (show mPk 2 (dE n lim (.val (.int b)) y) g1 = .ok (.int b) g1 from rfl) (show mC (.int 40014) _ g1 = .ok (.int 40014) g1 from rfl) (fMul_r (by omega))) (tn _ e1) (show fAdd (.int (b * 40014)) (.int (t + 1)) = some (.int (b * 40014 + (t + 1))) from rfl))) (show mC (.int 2147483563) _ g1 = .ok (.int 2147483563) g1 from rfl) (fMod_p (by omega))) (show mC (.int 64) _ g1 = .ok (.int 64) g1 from rfl) (fDiv_p (by omega) (by omega))) (show mPk 1 (dE n lim (.val (.int b)) y) g1 = .ok (.int lim) g1 from rfl) (fMod_p hl))
  refine ⟨_, dE n lim (.val (.int b)) y, ?_, Int.emod_nonneg ((b * 40014 + (t + 1)) % 2147483563 / 64) (Int.ne_of_gt hl), Int.emod_lt_of_pos _ hl⟩
  exact (ev_seq A1).trans ((ev_seq A2).trans ((ev_seq A3).trans A4))
theorem fAdd_lst {xs ys : List D} (h : xs.length + ys.length ≤ 1000000) : fAdd (.lst xs) (.lst ys) = some (.lst (xs ++ ys)) := by
  show (if xs.length + ys.length ≤ 1000000 then some (D.lst (xs ++ ys)) else none) = _
  rw [if_pos h]
theorem ev_gr {a : Int} (h : g[n]? = some (gS (a :: gs) s t)) (hg : gs.length ≤ 1000) (hl : 0 < lim) (hl2 : lim < 1073741824) : ∃ r env, dGr (dE n lim x y) g = .ok (.rt (.int r), env) (g.set n (gS (a / lim :: gs) s t)) ∧ 0 ≤ r ∧ r < lim := by
  have e0 : (dE n lim x (.val (.int a)))[0]? = some (.val (.gr n)) := rfl
  have A1 : mAsg (mBin fIx dGreat (mC (.int 0))) (bName 3) (dE n lim x y) g = .ok (.nx, dE n lim x (.val (.int a))) g := ev_asg (ev_first h)
  have q : (mNew (mItems (mCons (mBin fDiv (mPk 3) (mPk 1)) (mNil)))) (dE n lim x (.val (.int a))) g = .ok (.lst [.int (a / lim)]) g := by
    have z : mBin fDiv (mPk 3) (mPk 1) (dE n lim x (.val (.int a))) g = .ok (.int (a / lim)) g := ev_bin (show mPk 3 _ g = .ok (.int a) g from rfl) (show mPk 1 _ g = .ok (.int lim) g from rfl) (fDiv_p hl hl2)
    unfold mNew mItems mCons
    rw [z]; rfl
  have A2 : mGPut 0 (.inr "great") (mBin fAdd (mNew (mItems (mCons (mBin fDiv (mPk 3) (mPk 1)) (mNil)))) (mSl dGreat (mPart (mC (.int 1))) (mNo))) (dE n lim x (.val (.int a))) g = .ok (.nx, dE n lim x (.val (.int a))) (g.set n (gS (a / lim :: gs) s t)) :=
    ev_gput e0 (ev_bin q (ev_rest h) (fAdd_lst (by simp; omega))) (put_great (gs' := a / lim :: gs) h)
  refine ⟨_, _, (ev_seq A1).trans ((ev_seq A2).trans (ev_ret (ev_bin (ev_int1 (show mPk 3 (dE n lim x (.val (.int a))) (g.set n (gS (a / lim :: gs) s t)) = .ok (.int a) _ from rfl)) (show mPk 1 _ _ = .ok (.int lim) _ from rfl) (fMod_p hl)))), Int.emod_nonneg _ (Int.ne_of_gt hl), Int.emod_lt_of_pos _ hl⟩
/-- a draw below lim -/
theorem draw_ok (h : g[n]? = some (gS gs s t)) (hg : gs.length ≤ 69) (ht : 0 ≤ t) (ht2 : t < 2 ^ 60) (hl : 0 < lim) (hl2 : lim < 1073741824) :
    ∃ r gs' t', mDraw [.gr n, .int lim] g = .ok (.int r) (g.set n (gS gs' s t')) ∧ 0 ≤ r ∧ r < lim ∧ gs'.length ≤ gs.length ∧ t ≤ t' ∧ t' ≤ t + 1 := by
  have hw := ev_while (n := n) (s := s) (t := t) (lim := lim) (x := .no) (y := .no) gs 70 g (by omega) h
  obtain ⟨gs1, e1⟩ : ∃ gs1, gs1 = gs.dropWhile (· == 0) := ⟨_, rfl⟩
  have l1 : gs1.length ≤ gs.length := by rw [e1]; exact (List.dropWhile_sublist _).length_le
  rw [← e1] at hw
  have h1 : (g.set n (gS gs1 s t))[n]? = some (gS gs1 s t) := get_set h
  have un : mDraw [.gr n, .int lim] g = (match mSeq (mWhile 70 dT dB) (mSeq (mIfS (mTst (mBin fNe dGreat (mNew (mItems (mNil))))) dGr (mSkip)) dEnd) (dE n lim .no .no) g with
    | .ok (.nx, _) g1 => .ok .non g1
    | .ok (.rt d, _) g1 => .ok d g1
    | .ok (.bk, _) _ => .stuck
    | .ok (.ct, _) _ => .stuck
    | .exc c fs g1 => .exc c fs g1
    | .stuck => .stuck) := rfl
  rw [un, ev_seq (show mWhile 70 dT dB (dE n lim .no .no) g = _ from hw)]
  cases gs1 with
  | nil =>
    have A : mIfS (mTst (mBin fNe dGreat (mNew (mItems (mNil))))) dGr (mSkip) (dE n lim .no .no) (g.set n (gS [] s t)) = .ok (.nx, dE n lim .no .no) (g.set n (gS [] s t)) := by
      unfold mIfS
      rw [ev_ne h1]; rfl
    obtain ⟨r, env, e2, r1, r2⟩ := ev_end (x := .no) (y := .no) h1 ht ht2 hl
    rw [ev_seq A, e2]
    exact ⟨r, [], t + 1, by rw [List.set_set], r1, r2, by simp, by omega, by omega⟩
  | cons a gs2 =>
    obtain ⟨r, env, e2, r1, r2⟩ := ev_gr (x := .no) (y := .no) h1 (by simp only [List.length_cons] at l1; omega) hl hl2
    have A : mIfS (mTst (mBin fNe dGreat (mNew (mItems (mNil))))) dGr (mSkip) (dE n lim .no .no) (g.set n (gS (a :: gs2) s t)) = .ok (.rt (.int r), env) ((g.set n (gS (a :: gs2) s t)).set n (gS (a / lim :: gs2) s t)) := by
      unfold mIfS
      rw [ev_ne h1]
      exact e2
    have B : mSeq (mIfS (mTst (mBin fNe dGreat (mNew (mItems (mNil))))) dGr (mSkip)) dEnd (dE n lim .no .no) (g.set n (gS (a :: gs2) s t)) = .ok (.rt (.int r), env) ((g.set n (gS (a :: gs2) s t)).set n (gS (a / lim :: gs2) s t)) := by
      show R.bind (mIfS (mTst (mBin fNe dGreat (mNew (mItems (mNil))))) dGr (mSkip) (dE n lim .no .no) (g.set n (gS (a :: gs2) s t))) _ = _
      rw [A]; rfl
    rw [B]
    exact ⟨r, a / lim :: gs2, t, by rw [List.set_set], r1, r2, l1, by omega, by omega⟩
end
/-! ### the beginning -/
abbrev bBody : MS := mAsg (mBin fMod (mBlt fInt1 (mCons (mBin fAdd (mBin fAdd (mBin fMul (mPk 1) (mC (.int 69621))) (mBin fMod (mBlt fInt1 (mCons (mPk 2) (mNil))) (mC (.int 2147483629)))) (mC (.int 7))) (mNil))) (mC (.int 2147483647))) (bName 1)
theorem ev_begun {S : List Int} {g : G} : ∀ (ns : List Int) (s : Int) (x : Slot), ∃ y, forL (bName 2) bBody (ns.map .int) [.val (.scr S), .val (.int s), x] g = .ok (.nx, [.val (.scr S), .val (.int (seedOf s ns)), y]) g
  | [], s, x => ⟨x, rfl⟩
  | n :: ns, s, x => by
    obtain ⟨y, e⟩ := ev_begun (S := S) (g := g) ns ((s * 69621 + n % 2147483629 + 7) % 2147483647) (.val (.int n))
    refine ⟨y, ?_⟩
    have A : bBody [.val (.scr S), .val (.int s), .val (.int n)] g = .ok (.nx, [.val (.scr S), .val (.int ((s * 69621 + n % 2147483629 + 7) % 2147483647)), .val (.int n)]) g :=
      ev_asg (ev_bin (ev_int1 (ev_bin (ev_bin (ev_bin (show mPk 1 _ g = .ok (.int s) g from rfl) (show mC (.int 69621) _ g = .ok (.int 69621) g from rfl) (fMul_r (by omega))) (ev_bin (ev_int1 (show mPk 2 _ g = .ok (.int n) g from rfl)) (show mC (.int 2147483629) _ g = .ok (.int 2147483629) g from rfl) (fMod_p (by omega))) (show fAdd (.int (s * 69621)) (.int (n % 2147483629)) = some (.int (s * 69621 + n % 2147483629)) from rfl)) (show mC (.int 7) _ g = .ok (.int 7) g from rfl) (show fAdd (.int (s * 69621 + n % 2147483629)) (.int 7) = some (.int (s * 69621 + n % 2147483629 + 7)) from rfl))) (show mC (.int 2147483647) _ g = .ok (.int 2147483647) g from rfl) (fMod_p (by omega)))
    show R.bind (bBody [.val (.scr S), .val (.int s), .val (.int n)] g) _ = _
    rw [A]
    exact e
abbrev bT : MT := mTst (mBin fGe (mPk 2) (mBin fPow (mC (.int 10)) (mC (.int 18))))
theorem ev_great0 {S : List Int} {g : G} {z : Slot} : ∀ ns : List Int, compL (bName 2) bT (mVar 2) [.val (.scr S), z, .no] (ns.map .int) g = .ok ((ns.filter fun n => decide (10 ^ 18 ≤ n)).map .int) g
  | [] => rfl
  | n :: ns => by
    rw [List.map_cons, compL]
    have A : bT [.val (.scr S), z, .val (.int n)] g = .ok (decide (10 ^ 18 ≤ n)) g := rfl
    show R.bind (R.nox (bT [.val (.scr S), z, .val (.int n)] g)) _ = _
    rw [A]
    by_cases h : (10 ^ 18 : Int) ≤ n
    · have h' : decide ((10 : Int) ^ 18 ≤ n) = true := decide_eq_true h
      rw [List.filter_cons_of_pos (p := fun n => decide ((10 : Int) ^ 18 ≤ n)) (a := n) h', h']
      show R.bind (compL (bName 2) bT (mVar 2) [.val (.scr S), z, .no] (ns.map .int) g) _ = _
      rw [ev_great0 ns]; rfl
    · have h' : decide ((10 : Int) ^ 18 ≤ n) = false := decide_eq_false h
      rw [List.filter_cons_of_neg (p := fun n => decide ((10 : Int) ^ 18 ≤ n)) (a := n) (by rw [h']; exact Bool.false_ne_true), h']
      exact ev_great0 ns
theorem begun_ok (ns : List Int) (g : G) : mBegun [.scr ns] g = .ok (.gr g.length) (g ++ [gS (ns.filter fun n => decide (10 ^ 18 ≤ n)) (seedOf 11 ns) 0]) := by
  obtain ⟨y, e⟩ := ev_begun (S := ns) (g := g) ns 11 .no
  have un : mBegun [.scr ns] g = (match mSeq (mAsg (mC (.int 11)) (bName 1)) (mSeq (mFor (mItL (mVar 0)) (bName 2) bBody) (mRet (mDisp [(.inr "great", mNew (mComp [2] (mItL (mVar 0)) (bName 2) bT (mVar 2))), (.inr "seed", mVar 1), (.inr "turns", mC (.int 0))]))) [.val (.scr ns), .no, .no] g with
    | .ok (.nx, _) g1 => .ok .non g1
    | .ok (.rt d, _) g1 => .ok d g1
    | .ok (.bk, _) _ => .stuck
    | .ok (.ct, _) _ => .stuck
    | .exc c fs g1 => .exc c fs g1
    | .stuck => .stuck) := rfl
  have A1 : mAsg (mC (.int 11)) (bName 1) [.val (.scr ns), .no, .no] g = .ok (.nx, [.val (.scr ns), .val (.int 11), .no]) g := rfl
  have A2 : mFor (mItL (mVar 0)) (bName 2) bBody [.val (.scr ns), .val (.int 11), .no] g = .ok (.nx, [.val (.scr ns), .val (.int (seedOf 11 ns)), y]) g := e
  have A3 : mNew (mComp [2] (mItL (mVar 0)) (bName 2) bT (mVar 2)) [.val (.scr ns), .val (.int (seedOf 11 ns)), y] g = .ok (.lst ((ns.filter fun n => decide (10 ^ 18 ≤ n)).map .int)) g := by
    show R.bind (compL (bName 2) bT (mVar 2) [.val (.scr ns), .val (.int (seedOf 11 ns)), .no] (ns.map .int) g) _ = _
    rw [ev_great0]; rfl
  have A4 : mDisp [(.inr "great", mNew (mComp [2] (mItL (mVar 0)) (bName 2) bT (mVar 2))), (.inr "seed", mVar 1), (.inr "turns", mC (.int 0))] [.val (.scr ns), .val (.int (seedOf 11 ns)), y] g = .ok (.gr g.length) (g ++ [gS (ns.filter fun n => decide (10 ^ 18 ≤ n)) (seedOf 11 ns) 0]) := by
    unfold mDisp
    rw [dispL, A3]
    show (if _ ∧ D.ncs [D.lst ((ns.filter fun n => decide (10 ^ 18 ≤ n)).map .int), .int (seedOf 11 ns), .int 0] = true then _ else _) = _
    rw [if_pos]
    · rfl
    · refine ⟨by simp, ?_⟩
      simp only [D.ncs, D.nc, ncs_ints, Bool.and_self]
  rw [un, ev_seq A1, ev_seq A2, ev_ret A4]
theorem ev_fn {n : Nat} {F : List D → G → R D} {ms : MA} {env : Ev} {g g1 g2 : G} {ds : List D} {d : D} (hm : ms env g = .ok ds g1) (hn : ds.length = n) (h : F ds g1 = .ok d g2) : mFn n F ms env g = .ok d g2 := by
  unfold mFn
  rw [hm]
  show (if ds.length = n then F ds g1 else .stuck) = _
  rw [if_pos hn, h]
theorem ev_and {ma mb : ME} {env : Ev} {g g1 g2 : G} {d : D} (ha : ma env g = .ok (.bl true) g1) (hb : mb env g1 = .ok d g2) : mAndV ma mb env g = .ok d g2 := by
  unfold mAndV
  rw [ha]
  exact hb
theorem ev_tst {m : ME} {env : Ev} {g g1 : G} {b : Bool} (h : m env g = .ok (.bl b) g1) : mTst m env g = .ok b g1 := by
  unfold mTst
  rw [h]; rfl
theorem ev_def {n : Nat} {m : MS} {ds : List D} {g g1 : G} {d : D} {e : Ev} (h : m (ev0 n ds) g = .ok (.rt d, e) g1) : mDef n m ds g = .ok d g1 := by
  unfold mDef
  rw [h]
theorem ev_seqR {m1 m2 : MS} {env e : Ev} {g g1 : G} {d : D} (h : m1 env g = .ok (.rt d, e) g1) : mSeq m1 m2 env g = .ok (.rt d, e) g1 := by
  unfold mSeq
  rw [h]; rfl
theorem ev_ifT {c : MT} {m1 m2 : MS} {env : Ev} {g g1 : G} (h : c env g = .ok true g1) : mIfS c m1 m2 env g = m1 env g1 := by
  unfold mIfS
  rw [h]; rfl
theorem ev_ifF {c : MT} {m1 m2 : MS} {env : Ev} {g g1 : G} (h : c env g = .ok false g1) : mIfS c m1 m2 env g = m2 env g1 := by
  unfold mIfS
  rw [h]; rfl
end GT

/-! GtV: a walk over a list or a tuple, whichever it is. -/
namespace GT
open PySem PySem.Spec PyProof.Rows L2 RZ
def iSeq (K : PySem.W.Frag) (tl : TE) : TI := fun σ H R => tl σ H fun x H1 => ∃ a, x = .ref a ∧ (((∃ xs, SqL K H1 a xs) ∧ R (Itl K a) H1) ∨ ((∃ xs, SqT K H1 a xs) ∧ R (Itt K a) H1))
theorem pi_seq {X : Cx} {tg l : Expr} {tl : TE} (hl : PE X l tl) : PI X tg l (iSeq X.K tl) := ⟨fun pins s σ H R I h =>
  thn (hl.run pins s σ H _ I h) fun v s1 ⟨x, H1, I1, r1, a, e, q1⟩ => by
    subst e
    obtain rfl : v = Value.ref a := r1
    have fp : ∀ b ∈ [s1.heap.objs.size], FpOk X pins H1 b := fun b hb => by
      obtain rfl := List.mem_singleton.mp hb
      exact I1.fpOk (Nat.le_refl _) (I1.hok.fresh (Nat.le_refl _))
    rcases q1 with ⟨⟨xs, hq⟩, q⟩ | ⟨⟨xs, hq⟩, q⟩
    · obtain ⟨its, rv, p, hz⟩ := I1.list hq
      exact wpAny_pyIter_list p.isList ⟨s1.heap.objs.size, [s1.heap.objs.size], _, _, H1, rfl, I1.kept (t' := s1.toks) (fun b o e => Heap.get?_push_of_some _ e), turn_list a _, ⟨_, Heap.get?_push_size _ rfl, rfl, rfl⟩, fp, q⟩
    · obtain ⟨its, rv, p, hz⟩ := I1.tuple hq
      exact wpAny_pyIter_tuple (show s1.heap.IsTuple a its.toArray from p) ⟨s1.heap.objs.size, [s1.heap.objs.size], _, _, H1, rfl, I1.kept (t' := s1.toks) (fun b o e => Heap.get?_push_of_some _ e), turn_tuple a _, ⟨_, Heap.get?_push_size _ rfl, rfl, rfl⟩, fp, q⟩⟩
def mItA (m : ME) : MI := fun env g => (m env g).bind fun d g1 => match d with
  | .lst ds => .ok ds g1
  | .tup ds => .ok ds g1
  | .scr ns => .ok (ns.map .int) g1
  | _ => .stuck
section
variable {X : Cx} {C : Cst} {Wx : WX}
theorem si_any {e tg : Expr} {m : ME} (hK : C.K = X.K) (he : PE X e (RE C Wx m)) : PI X tg e (RI C Wx (mItA m)) := PIm (pi_seq he) fun σ H Q h => by
  obtain ⟨W, env, oas, g, r, S, P⟩ := h
  refine ⟨W, env, oas, g, r, S, Post.mono (Post.split P) fun v H1 ⟨d, g1, r1, b1, s1, p1, q1⟩ => ?_⟩
  rw [← hK]
  cases d with
  | lst ds =>
    cases p1 with
    | lst h hz hr hw q => exact ⟨_, rfl, .inl ⟨⟨_, .inl (.inl h)⟩, Post.here (d := ds) (g := g1) q1 b1 (itr_at hz q walk_list fun r' W' H' k => .inl (.inl (k.ext _ _ h hr hw (fun _ z => by cases z))))⟩⟩
  | tup ds =>
    cases p1 with
    | tup h hz hr hw q => exact ⟨_, rfl, .inr ⟨⟨_, .inl (.inl h)⟩, Post.here (d := ds) (g := g1) q1 b1 (itr_at hz q walk_tup fun r' W' H' k => .inl (.inl (k.ext _ _ h hr hw (fun _ z => by cases z))))⟩⟩
  | scr ns =>
    cases p1 with
    | scr h hz hr hw =>
      exact ⟨_, rfl, .inl ⟨⟨_, .inl h⟩, Post.here (d := ns.map D.int) (g := g1) q1 b1 (itr_at (by rw [List.length_map]; exact hz) (RpL.ints ns) walk_list fun r' W' H' k => .inl (Rd.keep h (fun _ z => by cases z) fun u e n => k.ext _ u e hr hw n))⟩⟩
    | scrK h1 h2 h3 h4 h5 h6 =>
      have hz : (ns.map V.int).length ≤ sizeLine := by
        rw [h6.length, Array.length_toList]; exact h5
      exact ⟨_, rfl, .inl ⟨⟨_, .inr ⟨_, _, _, h1, h2, h3, h4, h5, h6⟩⟩, Post.here (d := ns.map D.int) (g := g1) q1 b1 (itr_at hz (RpL.ints ns) walk_list fun r' W' H' k => .inr ⟨_, _, _, h1, h2, h3, h4, h5, h6⟩)⟩⟩
  | _ => exact q1.elim
theorem fr_itA {m : ME} (h : FrE m) : FrE (mItA m) := fun env => Fr.bind (h env) fun d => by cases d <;> first | exact Fr.ok | exact Fr.st
end
end GT

/-! GtW: three names at once. -/
namespace GT
open PySem PySem.Spec PyProof.Rows L2 RZ
def mPar3 (i j l : Nat) (ms : MA) : MS := fun env g => (ms env g).bind fun ds g1 => match ds with
  | [d, e, f] => .ok (.nx, ((env.set i (.val d)).set j (.val e)).set l (.val f)) g1
  | _ => .stuck
section
variable {X : Cx} {C : Cst} {Wx : WX}
theorem ss_par3 (i j l : Nat) {x y z : Str} {a b c : Expr} {px py pz pt pos : Pos} {kt k2 pt2} {ms : MA} (hc : X.calm = true) (hN : X.N.Nodup) (hi : X.N[i]? = some x) (hj : X.N[j]? = some y) (hl : X.N[l]? = some z) (hij : i ≠ j) (hil : i ≠ l) (hjl : j ≠ l)
    (hx : X.env.scope.names.lookup x = some .local) (hy : X.env.scope.names.lookup y = some .local) (hz : X.env.scope.names.lookup z = some .local) (ha : PA X [a, b, c] (RA C Wx ms))
    (hw : swappedStores [.Tuple [.Name x px, .Name y py, .Name z pz] kt pt] (.Tuple [a, b, c] k2 pt2) X.env = pure (some [x, y, z]))
    (hs : swapsWithSole [.Tuple [.Name x px, .Name y py, .Name z pz] kt pt] (.Tuple [a, b, c] k2 pt2) pos.line X.env = pure false := by rfl) :
    PS X (.Assign [.Tuple [.Name x px, .Name y py, .Name z pz] kt pt] (.Tuple [a, b, c] k2 pt2) pos) (RS C Wx (mPar3 i j l ms)) := PSm' (ps_par3 hc hN hi hj hl hij hil hjl hx hy hz ha hw hs) fun D σ H h => by
  obtain ⟨H0, r0, Wo, env, oas, g, r, S, P⟩ := h
  refine ⟨Wf oas Wo, env, oas, g, r, S.sm, Post.mono (PoS.split S.st P) fun v H1 ⟨d, g1, r1, b1, s1, p1, q1⟩ => ?_⟩
  have S1 := S.step s1 b1
  dsimp only at q1
  split at q1
  · cases p1 with
    | cons h1 t1 => cases t1 with
      | cons h2 t2 => cases t2 with
        | cons h3 t3 =>
          cases t3
          exact ⟨_, _, _, rfl, q1 _ H1 (((oas.set i none).set j none).set l none) r1 (S1.less (((S1.sm.setV i h1).setV j h2).setV l h3) fun a z => mem_set_none (mem_set_none (mem_set_none z))) (kp_sub fun a z => mem_set_none (mem_set_none (mem_set_none z)))⟩
  · exact q1.elim
theorem fr_par3 {i j l : Nat} {ms : MA} (h : FrE ms) : FrE (mPar3 i j l ms) := fun env => Fr.bind (h env) fun ds => by
  cases ds with
  | nil => exact Fr.st
  | cons d ds => cases ds with
    | nil => exact Fr.st
    | cons e ds => cases ds with
      | nil => exact Fr.st
      | cons f ds => cases ds <;> first | exact Fr.ok | exact Fr.st
end
end GT

/-! GtX: many names at once, new lists and dicts among the values. -/
namespace GT
open PySem PySem.Spec PyProof.Rows L2 RZ
/-- an item: a value, a new list, a new dict -/
inductive AK where
  | v (m : ME) | l (m : Ev → G → R (List D)) | d (m : MD)
def mArgs : List AK → Ev → G → R (List Slot)
  | [], _, g => .ok [] g
  | .v m :: as, env, g => (m env g).bind fun d g1 => (mArgs as env g1).bind fun ss g2 => .ok (.val d :: ss) g2
  | .l m :: as, env, g => (m env g).bind fun ds g1 => (mArgs as env g1).bind fun ss g2 => .ok (.ol ds :: ss) g2
  | .d m :: as, env, g => (m env g).bind fun s g1 => (mArgs as env g1).bind fun ss g2 => .ok (s.slot :: ss) g2
inductive SlX (C : Cst) (r : List Addr) (W : Addr → Prop) (H : Hp) : List Slot → List (Option Addr) → List V → Prop
  | nil : SlX C r W H [] [] []
  | cons {s : Slot} {o : Option Addr} {v : V} {ss : List Slot} {os : List (Option Addr)} {vs : List V} (h : SlR C r W H s o (some v)) (t : SlX C r W H ss os vs) : SlX C r W H (s :: ss) (o :: os) (v :: vs)
def PostX (C : Cst) (Wx : WX) (W : Addr → Prop) (r : List Addr) (σ : L2.St) (H : Hp) (Q : List V → Hp → Prop) : R (List Slot) → Prop
  | .ok ss g' => ∀ vs H' r' os, Bs C (Wf os W) g' r' H' → Step r r' H H' → (∀ a, some a ∈ os → H a = none) → (∀ (i j : Nat) (a : Addr), os[i]? = some (some a) → os[j]? = some (some a) → i = j) → SlX C r' (Wf os W) H' ss os vs → Q vs H'
  | .exc c fs g' => ∀ cl dx H' r', Bs C W g' r' H' → Step r r' H H' → ExR C r' W H' c fs cl dx → Wx (.ref cl) dx σ H'
  | .stuck => False
def RX (C : Cst) (Wx : WX) (as : List AK) : TA := fun σ H Q => ∃ W env oas g r, Sm C W env oas g r σ H ∧ PostX C Wx W r σ H Q (mArgs as env g)
section
variable {X : Cx} {C : Cst} {Wx : WX}
theorem SlX.keep {r r' : List Addr} {W W' : Addr → Prop} {H H' : Hp} (k : Kp r r' W W' H H') : ∀ {ss : List Slot} {os : List (Option Addr)} {vs : List V}, (∀ a, some a ∈ os → H' a = H a) → SlX C r W H ss os vs → SlX C r' W' H' ss os vs
  | _, _, _, _, .nil => .nil
  | _, _, _, e, .cons h t => .cons (h.keep k fun a q => e a (by rw [q]; exact List.mem_cons_self ..)) (t.keep k fun a q => e a (List.mem_cons_of_mem _ q))
/-- a new object at a: what may be written grows -/
theorem Sm.grow {W : Addr → Prop} {env : Ev} {oas : List (Option Addr)} {g g' : G} {r r' : List Addr} {σ : L2.St} {H H' : Hp} {a : Addr} (S : Sm C W env oas g r σ H) (b : Bs C (fun z => z = a ∨ W z) g' r' H') (st : Step r r' H H') (ha : H a = none) : Sm C (fun z => z = a ∨ W z) env oas g' r' σ H' where
  bs := b
  sl := S.sl.keep ⟨st.pre, fun z q => by
      rcases q with q | q | q
      · rcases st.fresh z q with e | e
        · exact .inl e
        · exact .inr (.inr e)
      · exact .inr (.inr (by rw [q]; exact ha))
      · exact .inr (.inl q), fun z u e hr _ no => st.ext z u e hr no, st.dom⟩ fun z hz => by
    obtain ⟨u, h1, h2, _⟩ := S.sl.tr hz
    rw [h1]
    exact st.ext z u h1 (fun q => S.bs.dis z q (S.own z hz)) h2
  own := fun z q => .inr (S.own z q)
  ownd := S.ownd
theorem sx_nil : PA X [] (RX C Wx []) := PAm pa_nil fun σ H Q h => by
  obtain ⟨W, env, oas, g, r, S, P⟩ := h
  exact P [] H r [] (S.bs.anti fun a z => z.elim (fun z => by cases z) id) (Step.refl _ _) (fun a z => by cases z) (fun i j a z => by simp at z) .nil
theorem sx_v {e : Expr} {es : List Expr} {m : ME} {as : List AK} (ha : PE X e (RE C Wx m)) (hr : PA X es (RX C Wx as)) (hs : starEach (e :: es) X.env = (false, eval e X.env) :: starEach es X.env := by rfl) : PA X (e :: es) (RX C Wx (.v m :: as)) :=
  PAm (pa_cons ha hr hs) fun σ H Q h => by
    obtain ⟨W, env, oas, g, r, S, P⟩ := h
    refine ⟨W, env, oas, g, r, S, ?_⟩
    rw [mArgs] at P
    revert P
    cases m env g with
    | stuck => exact fun P => P
    | exc c fs g1 => exact fun P => P
    | ok d g1 =>
      intro P v H1 r1 b1 s1 p1
      refine ⟨W, env, oas, g1, r1, S.step s1 b1, ?_⟩
      simp only [R.bind] at P
      revert P
      cases mArgs as env g1 with
      | stuck => exact fun P => P
      | exc c fs g2 => exact fun P cl dx H' r' b s q => P cl dx H' r' b (s1.trans s) q
      | ok ss g2 =>
        intro P vs H2 r2 os b2 s2 f2 n2 x2
        have sub : ∀ a, Wf (none :: os) W a → Wf os W a := fun a z => by
          rcases z with z | z
          · rcases List.mem_cons.mp z with z | z
            · cases z
            · exact .inl z
          · exact .inr z
        refine P (v :: vs) H2 r2 (none :: os) (b2.anti sub) (s1.trans s2) (fun a z => ?_) (fun i j a z1 z2 => ?_) (.cons (.val (p1.keep ?_)) (x2.keep ⟨fun _ _ h => h, fun a q => q.elim .inl fun q => .inr (.inl (sub a q)), fun _ _ h _ _ _ => h, fun _ h => h⟩ fun _ _ => rfl))
        · rcases List.mem_cons.mp z with z | z
          · cases z
          · exact s1.dom a (f2 a z)
        · cases i with
          | zero => simp at z1
          | succ i =>
            cases j with
            | zero => simp at z2
            | succ j => exact congrArg Nat.succ (n2 i j a (by simpa using z1) (by simpa using z2))
        · refine ⟨s2.pre, fun a q => ?_, fun a o e hr _ no => s2.ext a o e hr no, s2.dom⟩
          rcases q with q | q
          · rcases s2.fresh a q with z | z
            · exact .inl z
            · exact .inr (.inr z)
          · rcases sub a q with z | z
            · exact .inr (.inr (f2 a z))
            · exact .inr (.inl z)
/-- a new object first -/
theorem sx_new {α : Type} {Cn : List Addr → (Addr → Prop) → Hp → α → Addr → Prop} {sl : α → Slot} {e : Expr} {es : List Expr} {m : Ev → G → R α} {as : List AK} {k : AK} (hk : ∀ env g, mArgs (k :: as) env g = (m env g).bind fun d g1 => (mArgs as env g1).bind fun ss g2 => .ok (sl d :: ss) g2)
    (hC : ∀ {r : List Addr} {W : Addr → Prop} {H : Hp} {d : α} {a : Addr}, Cn r W H d a → SlR C r W H (sl d) (some a) (some (.ref a)))
    (ha : PE X e (fun σ H Q => ∃ W env oas g r, Sm C W env oas g r σ H ∧ PostN C Wx W r σ H Cn Q (m env g))) (hr : PA X es (RX C Wx as)) (hs : starEach (e :: es) X.env = (false, eval e X.env) :: starEach es X.env := by rfl) : PA X (e :: es) (RX C Wx (k :: as)) :=
  PAm (pa_cons ha hr hs) fun σ H Q h => by
    obtain ⟨W, env, oas, g, r, S, P⟩ := h
    refine ⟨W, env, oas, g, r, S, ?_⟩
    rw [hk] at P
    revert P
    cases m env g with
    | stuck => exact fun P => P
    | exc c fs g1 => exact fun P => P
    | ok d g1 =>
      intro P p H1 r1 b1 s1 hp hpw hct
      refine ⟨fun z => z = p ∨ W z, env, oas, g1, r1, S.grow b1 s1 hp, ?_⟩
      simp only [R.bind] at P
      revert P
      cases mArgs as env g1 with
      | stuck => exact fun P => P
      | exc c fs g2 => exact fun P cl dx H' r' b s q => P cl dx H' r' (b.anti fun _ z => .inr z) (s1.trans s) (q.anti fun _ z => .inr z)
      | ok ss g2 =>
        intro P vs H2 r2 os b2 s2 f2 n2 x2
        have sub : ∀ a, Wf (some p :: os) W a → Wf os (fun z => z = p ∨ W z) a := fun a z => by
          rcases z with z | z
          · rcases List.mem_cons.mp z with z | z
            · cases z; exact .inr (.inl rfl)
            · exact .inl z
          · exact .inr (.inr z)
        have hpr : p ∉ r1 := fun z => b1.dis p z (.inl rfl)
        have sp := hC hct
        obtain ⟨u, hu, nu, _⟩ := sp.tr
        have hp1 : ∀ a, some a ∈ os → a ≠ p := fun a z e => by
          have := f2 a z
          rw [e, hu] at this
          cases this
        refine P (.ref p :: vs) H2 r2 (some p :: os) (b2.anti sub) (s1.trans s2) (fun a z => ?_) (fun i j a z1 z2 => ?_) (.cons (sp.keep ?_ fun a e => ?_) (x2.keep ⟨fun _ _ h => h, fun a q => q.elim .inl fun q => .inr (.inl (sub a q)), fun _ _ h _ _ _ => h, fun _ h => h⟩ fun _ _ => rfl))
        · rcases List.mem_cons.mp z with z | z
          · cases z; exact hp
          · exact s1.dom a (f2 a z)
        · cases i with
          | zero =>
            cases j with
            | zero => rfl
            | succ j =>
              simp at z1
              subst z1
              exact absurd rfl (hp1 p (List.mem_of_getElem? (by simpa using z2)))
          | succ i =>
            cases j with
            | zero =>
              simp at z2
              subst z2
              exact absurd rfl (hp1 p (List.mem_of_getElem? (by simpa using z1)))
            | succ j => exact congrArg Nat.succ (n2 i j a (by simpa using z1) (by simpa using z2))
        · refine ⟨s2.pre, fun a q => ?_, fun a o e hr _ no => s2.ext a o e hr no, s2.dom⟩
          rcases q with q | q
          · rcases s2.fresh a q with z | z
            · exact .inl z
            · exact .inr (.inr z)
          · rcases sub a q with z | z
            · exact .inr (.inr (f2 a z))
            · exact .inr (.inl z)
        · cases e
          rw [hu]
          exact s2.ext p u hu hpr nu
theorem sx_l {e : Expr} {es : List Expr} {m : Ev → G → R (List D)} {as : List AK} (ha : PE X e (RN C Wx m)) (hr : PA X es (RX C Wx as)) (hs : starEach (e :: es) X.env = (false, eval e X.env) :: starEach es X.env := by rfl) : PA X (e :: es) (RX C Wx (.l m :: as)) :=
  sx_new (sl := .ol) (fun _ _ => rfl) (fun {r W H d a} h => by obtain ⟨xs, h1, h2, h3⟩ := h; exact .ol h1 h2 h3) ha hr hs
theorem sx_d {e : Expr} {es : List Expr} {m : MD} {as : List AK} (ha : PE X e (RNd C Wx m)) (hr : PA X es (RX C Wx as)) (hs : starEach (e :: es) X.env = (false, eval e X.env) :: starEach es X.env := by rfl) : PA X (e :: es) (RX C Wx (.d m :: as)) :=
  sx_new (sl := DS.slot) (fun _ _ => rfl) (fun {r W H d a} h => h.slR) ha hr hs
/-! ### stored -/
def setL {α : Type} : List α → List Nat → List α → List α
  | l, i :: is, x :: xs => setL (l.set i x) is xs
  | l, _, _ => l
theorem Sm.setS {W : Addr → Prop} {env : Ev} {oas : List (Option Addr)} {g : G} {r : List Addr} {σ : L2.St} {H : Hp} (m : Sm C W env oas g r σ H) (i : Nat) {s : Slot} {o : Option Addr} {v : V} (h : SlR C r W H s o (some v)) (ho : ∀ a, o = some a → W a ∧ some a ∉ oas) : Sm C W (env.set i s) (oas.set i o) g r (σ.set i (some v)) H where
  bs := m.bs
  sl := m.sl.set h i
  own := fun a q => by
    rcases List.mem_or_eq_of_mem_set q with q | q
    · exact m.own a q
    · exact (ho a q.symm).1
  ownd := fun j k a h1 h2 => by
    cases o with
    | none => exact m.ownd j k a (get_set_none h1).1 (get_set_none h2).1
    | some b =>
      rcases get_set_some h1 with ⟨e1, e2⟩ | ⟨e1, e2⟩ <;> rcases get_set_some h2 with ⟨e3, e4⟩ | ⟨e3, e4⟩
      · rw [e1, e3]
      · rw [e2] at e4; exact absurd (List.mem_of_getElem? e4) (ho b rfl).2
      · rw [e4] at e2; exact absurd (List.mem_of_getElem? e2) (ho b rfl).2
      · exact m.ownd j k a e2 e4
theorem Sm.setMany {W : Addr → Prop} {g : G} {r : List Addr} {H : Hp} : ∀ {ss : List Slot} {os : List (Option Addr)} {vs : List V} (is : List Nat) {env : Ev} {oas : List (Option Addr)} {σ : L2.St}, is.length = ss.length → SlX C r W H ss os vs → (∀ a, some a ∈ os → W a ∧ some a ∉ oas) → (∀ (i j : Nat) (a : Addr), os[i]? = some (some a) → os[j]? = some (some a) → i = j) → Sm C W env oas g r σ H →
    Sm C W (setL env is ss) (setL oas is os) g r (setL σ is (vs.map some)) H
  | _, _, _, [], _, _, _, _, .nil, _, _, m => m
  | _, _, _, _ :: _, _, _, _, hl, .nil, _, _, _ => by simp at hl
  | _, _, _, [], _, _, _, hl, .cons _ _, _, _, _ => by simp at hl
  | _, _, _, i :: is, env, oas, σ, hl, .cons (o := o) (os := os) h t, ho, hd, m => by
    refine Sm.setMany is (by simpa using hl) t (fun a q => ⟨(ho a (List.mem_cons_of_mem _ q)).1, fun z => ?_⟩) (fun j k a h1 h2 => Nat.succ.inj (hd (j + 1) (k + 1) a (by simpa using h1) (by simpa using h2))) (m.setS i h fun a e => ho a (by rw [e]; exact List.mem_cons_self ..))
    rcases List.mem_or_eq_of_mem_set z with z | z
    · exact (ho a (List.mem_cons_of_mem _ q)).2 z
    · obtain ⟨j, hj⟩ := List.getElem?_of_mem q
      have := hd 0 (j + 1) a (by simp [z]) (by simpa using hj)
      omega
theorem mem_setL {o : Option Addr} : ∀ {is : List Nat} {oas os : List (Option Addr)}, o ∈ setL oas is os → o ∈ oas ∨ o ∈ os
  | [], _, [], h => .inl h
  | [], _, _ :: _, h => .inl h
  | _ :: _, _, [], h => .inl h
  | i :: is, oas, x :: os, h => by
    rcases mem_setL (is := is) h with h | h
    · rcases List.mem_or_eq_of_mem_set h with h | h
      · exact .inl h
      · exact .inr (by rw [h]; exact List.mem_cons_self ..)
    · exact .inr (List.mem_cons_of_mem _ h)
def mParX (is : List Nat) (as : List AK) : MS := fun env g => (mArgs as env g).bind fun ss g1 => if is.length = ss.length then .ok (.nx, setL env is ss) g1 else .stuck
theorem SlX.len {r : List Addr} {W : Addr → Prop} {H : Hp} : ∀ {ss : List Slot} {os : List (Option Addr)} {vs : List V}, SlX C r W H ss os vs → ss.length = vs.length
  | _, _, _, .nil => rfl
  | _, _, _, .cons _ t => by simp [SlX.len t]
/-- the reading of the items, from that of the statement -/
theorem rx_par {is : List Nat} {as : List AK} {En : Ends} {σ : L2.St} {H : Hp} (h : RS C Wx (mParX is as) En σ H) : RX C Wx as σ H fun vs H1 => is.length = vs.length ∧ En.nx (setL σ is (vs.map some)) H1 := by
  obtain ⟨H0, r0, Wo, env, oas, g, r, S, P⟩ := h
  refine ⟨Wf oas Wo, env, oas, g, r, S.sm, ?_⟩
  unfold mParX at P
  revert P
  cases mArgs as env g with
  | stuck => exact fun P => P
  | exc c fs g1 => exact fun P cl dx H' r' b s q => P cl dx σ H' r' (b.anti wo_wf) (S.st.trans s) (q.anti wo_wf)
  | ok ss g1 =>
    intro P vs H1 r1 os b1 s1 f1 n1 x1
    simp only [R.bind] at P
    split at P
    · rename_i hl
      refine ⟨by rw [← x1.len]; exact hl, ?_⟩
      have k1 : Kp r r1 (Wf oas Wo) (Wf os (Wf oas Wo)) H H1 := by
        refine ⟨s1.pre, fun a q => ?_, fun a o e hr _ no => s1.ext a o e hr no, s1.dom⟩
        rcases q with q | q | q
        · rcases s1.fresh a q with z | z
          · exact .inl z
          · exact .inr (.inr z)
        · exact .inr (.inr (f1 a q))
        · exact .inr (.inl q)
      have m1 : Sm C (Wf os (Wf oas Wo)) env oas g1 r1 σ H1 := by
        refine ⟨b1, S.sm.sl.keep k1 fun a ha => ?_, fun a q => .inr (S.sm.own a q), S.sm.ownd⟩
        obtain ⟨u, h1, h2, _⟩ := S.sm.sl.tr ha
        rw [h1]
        exact s1.ext a u h1 (fun q => S.sm.bs.dis a q (S.sm.own a ha)) h2
      have m2 := Sm.setMany is hl x1 (fun a q => ⟨.inl q, fun z => S.sm.bs.wtr a (S.sm.own a z) (f1 a q)⟩) n1 m1
      have sub : ∀ a, Wf (setL oas is os) Wo a → Wf os (Wf oas Wo) a := fun a z => by
        rcases z with z | z
        · rcases mem_setL z with z | z
          · exact .inr (.inl z)
          · exact .inl z
        · exact .inr (.inr z)
      refine P _ H1 (setL oas is os) r1 ⟨m2.anti sub fun a q => .inl q, S.st.trans s1, fun a q => ?_, S.wo⟩ (k1.trans ⟨fun _ _ h => h, fun a q => q.elim .inl fun q => .inr (.inl (sub a q)), fun _ _ h _ _ _ => h, fun _ h => h⟩)
      rcases mem_setL q with z | z
      · exact S.fr a z
      · exact S.st.dom a (f1 a z)
    · exact P.elim
theorem ss_parX (i j : Nat) {x y : Str} {a b : Expr} {px py pt pos : Pos} {kt k2 pt2} {as : List AK} (hc : X.calm = true) (hN : X.N.Nodup) (hi : X.N[i]? = some x) (hj : X.N[j]? = some y) (hij : i ≠ j)
    (hx : X.env.scope.names.lookup x = some .local) (hy : X.env.scope.names.lookup y = some .local) (ha : PA X [a, b] (RX C Wx as))
    (hw : swappedStores [.Tuple [.Name x px, .Name y py] kt pt] (.Tuple [a, b] k2 pt2) X.env = pure (some [x, y]))
    (hs : swapsWithSole [.Tuple [.Name x px, .Name y py] kt pt] (.Tuple [a, b] k2 pt2) pos.line X.env = pure false := by rfl) :
    PS X (.Assign [.Tuple [.Name x px, .Name y py] kt pt] (.Tuple [a, b] k2 pt2) pos) (RS C Wx (mParX [i, j] as)) := PSm (ps_par hc hN hi hj hij hx hy (PAm ha fun σ H Q h => h) hw hs) fun σ H D h => by
  obtain ⟨W, env, oas, g, r, S, P⟩ := rx_par h
  refine ⟨W, env, oas, g, r, S, ?_⟩
  revert P
  cases mArgs as env g with
  | stuck => exact fun P => P
  | exc c fs g1 => exact fun P => P
  | ok ss g1 =>
    intro P vs H1 r1 os b1 s1 f1 n1 x1
    obtain ⟨hl, q⟩ := P vs H1 r1 os b1 s1 f1 n1 x1
    match vs, hl with
    | [u, v], _ => exact ⟨u, v, rfl, q⟩
theorem ss_parX3 (i j l : Nat) {x y z : Str} {a b c : Expr} {px py pz pt pos : Pos} {kt k2 pt2} {as : List AK} (hc : X.calm = true) (hN : X.N.Nodup) (hi : X.N[i]? = some x) (hj : X.N[j]? = some y) (hl : X.N[l]? = some z) (hij : i ≠ j) (hil : i ≠ l) (hjl : j ≠ l)
    (hx : X.env.scope.names.lookup x = some .local) (hy : X.env.scope.names.lookup y = some .local) (hz : X.env.scope.names.lookup z = some .local) (ha : PA X [a, b, c] (RX C Wx as))
    (hw : swappedStores [.Tuple [.Name x px, .Name y py, .Name z pz] kt pt] (.Tuple [a, b, c] k2 pt2) X.env = pure (some [x, y, z]))
    (hs : swapsWithSole [.Tuple [.Name x px, .Name y py, .Name z pz] kt pt] (.Tuple [a, b, c] k2 pt2) pos.line X.env = pure false := by rfl) :
    PS X (.Assign [.Tuple [.Name x px, .Name y py, .Name z pz] kt pt] (.Tuple [a, b, c] k2 pt2) pos) (RS C Wx (mParX [i, j, l] as)) := PSm (ps_par3 hc hN hi hj hl hij hil hjl hx hy hz (PAm ha fun σ H Q h => h) hw hs) fun σ H D h => by
  obtain ⟨W, env, oas, g, r, S, P⟩ := rx_par h
  refine ⟨W, env, oas, g, r, S, ?_⟩
  revert P
  cases mArgs as env g with
  | stuck => exact fun P => P
  | exc c fs g1 => exact fun P => P
  | ok ss g1 =>
    intro P vs H1 r1 os b1 s1 f1 n1 x1
    obtain ⟨hl, q⟩ := P vs H1 r1 os b1 s1 f1 n1 x1
    match vs, hl with
    | [u, v, w], _ => exact ⟨u, v, w, rfl, q⟩
theorem SlX.tr {r : List Addr} {W : Addr → Prop} {H : Hp} : ∀ {ss : List Slot} {os : List (Option Addr)} {vs : List V} {a : Addr}, SlX C r W H ss os vs → some a ∈ os → H a ≠ none
  | _, _, _, _, .nil, h => by cases h
  | _, _, _, a, .cons (o := o) h t, q => by
    rcases List.mem_cons.mp q with e | e
    · subst e
      obtain ⟨u, hu, _⟩ := h.tr
      rw [hu]; exact fun z => nomatch z
    · exact t.tr e
theorem gNames_set {H : Hp} {Q : L2.St → Hp → Prop} : ∀ (is : List Nat) (xs : List V) (σ : L2.St), is.length = xs.length → Q (setL σ is (xs.map some)) H → gNames is xs σ H Q
  | [], [], σ, _, h => ⟨rfl, h⟩
  | [], _ :: _, _, e, _ => by simp at e
  | _ :: _, [], _, e, _ => by simp at e
  | i :: is, x :: xs, σ, e, h => ⟨x, xs, rfl, gNames_set is xs (σ.set i (some x)) (by simpa using e) h⟩
/-- a, b, .. = e, f, .. by a tuple that is unpacked -/
theorem ss_setTX (is : List Nat) {ts es : List Expr} {k k2 : Nat} {pos pos' p2 : Pos} {as : List AK} (hn10 : is.length ≤ 1000) (hc : X.calm = true) (hg : PGs X ts (gNames is)) (he : PA X es (RX C Wx as)) (hn : (assignEach ts X.env).length = is.length := by rfl) (hst : (assignEach ts X.env).findIdx? (·.1) = none := by rfl)
    (hs : swapsWithSole [.Tuple ts k pos'] (.Tuple es k2 p2) pos.line X.env = pure false := by rfl) (hw : swappedStores [.Tuple ts k pos'] (.Tuple es k2 p2) X.env = pure none := by rfl) (h1 : (assignEach [.Tuple ts k pos'] X.env).map (·.2) = [assign (.Tuple ts k pos') X.env] := by rfl) :
    PS X (.Assign [.Tuple ts k pos'] (.Tuple es k2 p2) pos) (RS C Wx (mParX is as)) := PSm' (ps_asg (pe_tup he) (pg_tup hc hg hn hst) hs hw h1) fun En σ H h => by
  obtain ⟨W, env, oas, g, r, S, P⟩ := rx_par h
  refine ⟨W, env, oas, g, r, S, ?_⟩
  revert P
  cases mArgs as env g with
  | stuck => exact fun P => P
  | exc c fs g1 => exact fun P => P
  | ok ss g1 =>
    intro P vs H1 r1 os b1 s1 f1 n1 x1
    obtain ⟨hl, _⟩ := P vs H1 r1 os b1 s1 f1 n1 x1
    refine ⟨by rw [← hl, sizeLine_eq]; omega, fun p hp => ⟨p, vs, rfl, .inl (.inl upd_same), hl.symm, gNames_set is vs σ hl ?_⟩⟩
    exact (P vs (upd H1 p (.tup vs)) r1 os (b1.upd hp) (s1.trans (Step.upd hp)) f1 n1 (x1.keep (Step.upd hp).kp fun a ha => by rw [upd_ne (fun z => x1.tr ha (by rw [z]; exact hp))])).2
theorem fr_args {as : List AK} : (∀ k ∈ as, match k with | .v m => FrE m | .l m => FrE m | .d m => FrE m) → ∀ env, Fr (mArgs as env) := by
  induction as with
  | nil => exact fun _ env => Fr.ok
  | cons k as ih =>
    intro h env
    have h0 := h k (List.mem_cons_self ..)
    have ht := ih (fun q hq => h q (List.mem_cons_of_mem _ hq)) env
    cases k with
    | v m => exact Fr.bind (h0 env) fun _ => Fr.bind ht fun _ => Fr.ok
    | l m => exact Fr.bind (h0 env) fun _ => Fr.bind ht fun _ => Fr.ok
    | d m => exact Fr.bind (h0 env) fun _ => Fr.bind ht fun _ => Fr.ok
inductive FrA : List AK → Prop
  | nil : FrA []
  | v {m : ME} {as : List AK} (h : FrE m) (t : FrA as) : FrA (.v m :: as)
  | l {m : Ev → G → R (List D)} {as : List AK} (h : FrE m) (t : FrA as) : FrA (.l m :: as)
  | d {m : MD} {as : List AK} (h : FrE m) (t : FrA as) : FrA (.d m :: as)
theorem FrA.all {as : List AK} (h : FrA as) : ∀ env, Fr (mArgs as env) := by
  induction h with
  | nil => exact fun env => Fr.ok
  | v h t ih => exact fun env => Fr.bind (h env) fun _ => Fr.bind (ih env) fun _ => Fr.ok
  | l h t ih => exact fun env => Fr.bind (h env) fun _ => Fr.bind (ih env) fun _ => Fr.ok
  | d h t ih => exact fun env => Fr.bind (h env) fun _ => Fr.bind (ih env) fun _ => Fr.ok
theorem fr_parX {is : List Nat} {as : List AK} (h : FrA as) : FrE (mParX is as) := fun env => Fr.bind (h.all env) fun _ => Fr.ite Fr.ok Fr.st
end
end GT

/-! GtY: own errors: made by an __init__ that first says super().__init__(text). -/
namespace GT
open PySem PySem.Spec PyProof.Rows L2

/-- what the written part says of an own error's __init__ at f: cc the cell of its class C -/
structure SupC (B initId : String) (P : Program) (K : PySem.W.Frag) (mg : Str → Option Value) (C cc f cd : Addr) (fd : FuncData) : Prop where
  lf : ∃ oc od osl, K.lookup f = some ⟨oc, od, .func fd, osl⟩
  hp : ∃ ar, (fd.params.posonlyargs ++ fd.params.args).head? = some ar ∧ ar.arg = "self"
  lc : ∃ ccl cdd vs ccs file tf, K.lookup cd = some ⟨ccl, cdd, .fields vs, ccs⟩ ∧ vs[2]? = some (.str file tf) ∧ ((P.main.file : Str) == file) = true
  cell : ∃ cl cld csl, K.lookup cc = some ⟨cl, cld, .cell (some (.ref C)), csl⟩
  cls : ∃ cdC, PySem.W.clsIn K C = some cdC ∧ PySem.W.alongIn K "__init__" ((cdC.mro.dropWhile (· != .ref C)).drop 1) = some (some (.builtin initId))
  mro : PySem.W.mroIn K C (.ref C) = some true
  sup : mg "super" = none
  top : (P.main.scope.names.lookup ("super" : Str)).isSome = false
  opq : PySem.W.nsIn K cStatics "thirdparty.any" = some none
  sub : PySem.W.subIn K (.ref C) (.type B) = some true
/-- the class as it is laid: its base's row of bases bmB -/
def ClsB (K : PySem.W.Frag) (C : Addr) (newId : String) (bmB : List Value) : Prop := ∃ nm q N bs bm sn sub ab col dd k0 k1 k2 k3 k5, K.lookup C = some (excClassObj nm q C N bs bm true sn sub ab col dd k0 k1 k2 k3 k5 newId) ∧ ∀ Y : String, bm.contains (.type Y) = bmB.contains (.type Y)
theorem OexC.clsB {K : PySem.W.Frag} {C : Addr} (O : OexC K C) : ClsB K C "ValueError.__new__" PySem.HandSPX.veTail := by
  obtain ⟨nm, q, N, bs, bm, sn, sub, ab, col, dd, k0, k1, k2, k3, k5, lC, hbm⟩ := O.cls
  exact ⟨nm, q, N, bs, bm, sn, sub, ab, col, dd, k0, k1, k2, k3, k5, lC, fun Y => PySem.HandSPX.refsVE_contains Y bm hbm⟩

section
variable {X : Cx} {pins : List (Addr × Obj)} {σ : L2.St} {H : Hp} {s : Shared} {E : Value → Shared → Prop}
theorem ld_super {Q : Value → Shared → Prop} (I : Inv X pins σ H s) (hg : Gl X "super") (hm : X.mg "super" = none) (h : Q (.type "super") s) : wpAny (model X.prog X.w) X.A (loadName X.env "super") Q E s := by
  obtain ⟨mb, h1, h2⟩ := I.mod.blt
  exact PySem.W.ks_loadName_global I.ok.kind hg (Calls.loadGlobal_builtin (by rw [I.ok.glob]; exact I.mod.glob.keeps I.bk) hm (by rw [I.ok.blt]; exact h1.keeps I.bk) ((h2 "super" (by decide)).trans (by decide +kernel)) h)
/-- super().__init__(text) in an own error's __init__ -/
theorem sup_step {B newId initId : String} {bmB : List Value} (BF : ExcBaseFacts B newId initId bmB) (KF : PySem.W.KxsFacts B initId) {body : List Stmt} {C cc f cd a : Addr} {fd : FuncData} {Q : Flow → Shared → Prop} {p0 p1 p2 p3 p4 p5 : Pos} {tx : Str} {j} (O : ClsB X.K C newId bmB) (T : SupC B initId X.prog X.K X.mg C cc f cd fd) (I : Inv X pins σ H s)
    (ea : H a = some (exo a C none)) (hs0 : σ[0]? = some (some (.ref a))) (hN : X.N[0]? = some ("self" : Str)) (hks : X.env.kindOf "super" = some .globalImplicit) (hkc : X.env.kindOf "__class__" = some .free) (hkl : X.env.kindOf "self" = some .local)
    (hfu : X.env.func = some f) (hco : X.env.code = .ref cd) (hcc : X.env.cells.lookup ("__class__" : Str) = some cc) (hsw : swapsWith (.Call (.Attribute (.Call (.Name "super" p0) [] [] p1) "__init__" p2) [.Constant (.str tx) j p3] [] p4) none p5.line X.env = pure false)
    {pl : Sem Bool} (hev : eval (.Call (.Attribute (.Call (.Name "super" p0) [] [] p1) "__init__" p2) [.Constant (.str tx) j p3] [] p4) X.env = (do
      let ov ← attributeBase (.Call (.Name "super" p0) [] [] p1) "__init__" X.env (eval (.Call (.Name "super" p0) [] [] p1) X.env)
      standAt p2.atName
      let (g, first) ← holding [ov] (getMethod ov "__init__" pl)
      callWith p4 g first (backTo p4 (starEach [.Constant (.str tx) j p3] X.env)) []))
    (hst : starEach [.Constant (.str tx) j p3] X.env = [(false, eval (.Constant (.str tx) j p3) X.env)])
    (hq : ∀ s', Inv X pins σ H s' → Q .next s') :
    PySem.wpAt (model X.prog X.w) X.A (.func body X.env) (exec (.Expr (.Call (.Attribute (.Call (.Name "super" p0) [] [] p1) "__init__" p2) [.Constant (.str tx) j p3] [] p4) p5) X.env) Q E s := by
  obtain ⟨oc, od, osl, lf⟩ := T.lf
  obtain ⟨ar, hp, har⟩ := T.hp
  obtain ⟨ccl, cdd, vs, ccs, file, tf, lc, hvs, hfile⟩ := T.lc
  obtain ⟨cl, cld, csl, lcc⟩ := T.cell
  obtain ⟨cdC, hC, hal⟩ := T.cls
  obtain ⟨t1, hx⟩ := exo_at I.hok ea
  have hnc : ∀ c, ({ cls := .ref C, dict := none, data := .fields #[.ref t1, .none, .none, .none, .bool false, .none] } : Obj).data ≠ .cls c := fun c z => by cases z
  obtain ⟨oD, hD1, hD2⟩ : ∃ oD, s.heap.get? C = some oD ∧ oD.data = .cls cdC := by
    unfold PySem.W.clsIn at hC
    split at hC
    · rename_i c d cd' sl ho
      cases hC
      exact ⟨_, I.kIn _ _ ho, rfl⟩
    · cases hC
  refine ks_wpAt_Expr_any (ks_wpAt_MethodCall (ks_wpAt_super_base hks hkc (by decide) hfu (I.kIn _ _ lf) rfl hp hco (I.kIn _ _ lc) rfl hvs hfile T.top ?_) hev) I.quiet hsw
  refine ld_super I hks T.sup ⟨rfl, ?_⟩
  refine wpAny_loadName_free I.ok.kind hkc hcc ⟨_, I.kIn _ _ lcc, rfl⟩ ?_
  obtain ⟨m, hn, hl⟩ := I.loc
  obtain ⟨u, ru, lk⟩ := hl 0 _ _ hN hs0 (.inl hkl)
  obtain rfl : u = Value.ref a := ru
  have hm : m "self" = some (.ref a) := by
    rcases lk with ⟨_, hm⟩ | ⟨hk, _⟩
    · exact hm
    · rw [hkl] at hk
      rcases hk with hk | hk <;> cases hk
  rw [har]
  refine wpAny_loadName_local I.ok.kind hkl hn hm ?_
  refine ks_wpAny_isType_cls hD1 hD2 ⟨rfl, ?_⟩
  obtain ⟨hh, g, d, t, os⟩ := s
  refine ks_wpAny_call_super hD1 hD2 hx rfl hnc (PySem.W.looks_mroIn I.kIn T.mro) fun h' e k => ?_
  have I1 : Inv X pins σ H ⟨h', g, d, t, os⟩ := I.kept (t' := t) k
  have J1 : PySem.W.InstAt h' a _ C none := ⟨k _ _ hx, rfl, rfl, trivial⟩
  have hI : PySem.W.Looks (model X.prog X.w) h' (isInstance (.ref a) (.type B)) true := J1.type.andThen (PySem.W.looks_subIn I1.kIn T.sub)
  refine PySem.W.kxs_getMethod KF e (PySem.W.looks_opaque I1.kIn T.opq) (l₀ := cdC.mro) ?_ rfl I1.kIn hal hI (PySem.W.ks_ne I1.kIn J1 hC) (by decide) ?_
  · exact fun A Q E s k q => wpAny_bind ((PySem.W.looks_clsIn I1.kIn hC) A _ E s k (wpAny_pure q))
  have I2 : Inv X pins σ H ⟨h'.push (PySem.W.kxs_mw initId a), g, d, t + 1, os⟩ := I1.kept (t' := t + 1) fun b o e => Heap.get?_push_of_some _ e
  have hu : (h'.push (PySem.W.kxs_mw initId a)).get? h'.objs.size = some (PySem.W.kxs_mw initId a) := Heap.get?_push_at rfl rfl
  show wpAny _ _ (callWith p4 (.ref h'.objs.size) [] (backTo p4 (starEach [.Constant (.str tx) j p3] X.env)) []) _ _ _
  refine PySem.W.kxs_callWith (i := initId) (x := a) (by rw [hst]; rfl) ?_
  rw [hst]
  refine Calls.evalArgs_plain (Calls.spliced_cons ?_)
  show wpAny _ _ (eval (.Constant (.str tx) j p3) X.env) _ _ _
  refine Calls.Constant_str (Calls.spliced_nil ⟨hu, ?_⟩)
  show wpAny _ _ (call (.ref h'.objs.size) [.str tx (t + 1)]) _ _ _
  obtain ⟨nm, q, N, bs, bm, sn, sub, ab, col, dd, k0, k1, k2, k3, k5, lC, hbm⟩ := O
  have he2 : (h'.push (PySem.W.kxs_mw initId a)).get? a = some (PySem.W.excObj C t1 none .none) := Heap.get?_push_of_some _ (k _ _ hx)
  refine wpAny_call (codeAny_of_tree ?_)
  show wpAny _ X.A.in1 (callAny (.ref h'.objs.size) ⟨[.str tx (t + 1)], []⟩) _ _ _
  simp only [callAny]
  refine wpAny_bind (wpAny_load hu ?_)
  refine PySem.W.KFB.if_so (show (Value.type "method-wrapper" == Value.type "method" || Value.type "method-wrapper" == Value.type "builtin_function_or_method" || Value.type "method-wrapper" == Value.type "method-wrapper") = true by decide) ?_
  refine PySem.W.KFB.if_so (show (Value.type "method-wrapper" != Value.type "method") = true by decide) ?_
  refine wpAny_bind (PySem.W.check_bound_init BF.toExcCallFacts (I2.kIn _ _ lC) he2 rfl ?_)
  refine wpAny_bind (wpAny_pure (wpAny_pure ?_))
  refine ⟨plainId_quiet BF.init.plain _, codeAny_builtin BF.initEntry ?_⟩
  refine PySem.W.exc_init_tree (cls := .ref C) (t0 := t1) (dv := none) (c2 := .none) (c3 := .none) (b4 := .bool false) he2 (by rw [sizeLine_eq]; show 1 ≤ _; decide) fun h2 k2 e2 _ => ?_
  have J := I2.write (t' := t + 1 + 1) (x := a) (e := a) (o := exo a C none) (by rw [ea]; exact True.intro) (.inl rfl) k2 ⟨_, e2⟩ (exo_ok e2)
  have eu : upd H a (exo a C none) = H := by
    funext b
    by_cases hb : b = a
    · rw [hb, upd_same, ea]
    · rw [upd_ne hb]
  rw [eu] at J
  exact hq _ J
end

/-! ### the __init__ as a def -/
/-- what it does: fs the fields, in the order in which they are stored -/
def spG (C : Addr) (n : Nat) (Pg : Addr → List V → Hp → VK → Prop) : Sp := fun vs H Q _ => ∃ (a : Addr) (ws : List V), vs = .ref a :: ws ∧ ws.length = n ∧ H a = some (exo a C none) ∧ Pg a ws H Q
def spInit (C : Addr) (fs : List Str) : Sp := spG C fs.length fun a ws H Q => ∀ d, H d = none → d ≠ a → Q .non (upd (upd H d (exd d (fs.zip ws).reverse)) a (exo a C (some d)))
theorem spG_len {C : Addr} {n : Nat} {Pg : Addr → List V → Hp → VK → Prop} {vs : List V} {H : Hp} {Q : VK} {E : XK} (h : spG C n Pg vs H Q E) : vs.length = n + 1 := by
  obtain ⟨a, ws, rfl, hl, _⟩ := h
  simp [hl]
theorem init_fnG {B newId initId : String} {bmB : List Value} (BF : ExcBaseFacts B newId initId bmB) (KF : PySem.W.KxsFacts B initId) {n : Nat} {Pg : Addr → List V → Hp → VK → Prop} {P : Program} {w : World} {K : PySem.W.Frag} {mg : Str → Option Value} {base : Heap} {C cc f cd : Addr} {name qual : Str} {params : Arguments} {scope : Scope} {dV kV doc pm ct : Value} {an : Option Addr} {s0 : Stmt} {rest : List Stmt} {ps : List Str} {p0 p1 p2 p3 p4 p5 : Pos} {tx : Str} {j}
    (O : ClsB K C newId bmB) (T : SupC B initId P K mg C cc f cd (PySem.W.fnX name qual params (s0 :: rest) scope [("__class__", cc)] dV kV doc pm an (.ref cd) ct)) (hs : s0 = .Expr (.Call (.Attribute (.Call (.Name "super" p0) [] [] p1) "__init__" p2) [.Constant (.str tx) j p3] [] p4) p5)
    (hcd : PySem.W.codeIn K (.ref cd) qual = true) (L : LamSc scope (("self" : Str) :: ps) ["__class__"]) (hlen : ps.length = n) (hks : scope.names.lookup ("super" : Str) = some .globalImplicit)
    (hev : ∀ L' : Addr, ∃ pl : Sem Bool, eval (.Call (.Attribute (.Call (.Name "super" p0) [] [] p1) "__init__" p2) [.Constant (.str tx) j p3] [] p4) (clEnv qual scope [("__class__", cc)] L' f cd) = (do
      let ov ← attributeBase (.Call (.Name "super" p0) [] [] p1) "__init__" (clEnv qual scope [("__class__", cc)] L' f cd) (eval (.Call (.Name "super" p0) [] [] p1) (clEnv qual scope [("__class__", cc)] L' f cd))
      standAt p2.atName
      let (g, first) ← holding [ov] (getMethod ov "__init__" pl)
      callWith p4 g first (backTo p4 (starEach [.Constant (.str tx) j p3] (clEnv qual scope [("__class__", cc)] L' f cd))) []))
    (hbody : ∀ (A : Around) (outer : List Env) (s : Shared) (H : Hp) (E : XK) (L' : Addr) (H0 : Hp) (a : Addr) (ws : List V) (Q : VK), ws.length = n → H a = some (exo a C none) → Pg a ws H Q →
      ∃ t, PSs (clCx P w K mg base (("self" : Str) :: ps ++ [("__class__" : Str)]) qual scope [("__class__", cc)] f cd A outer s H0 E) rest t ∧ t { nx := fun _ H' => Q .non H', rt := Q } ((V.ref a :: ws ++ [V.ref C]).map some) H) :
    FnOk P w K mg base (L2.CX P w) 1 f (PySem.W.fnX name qual params (s0 :: rest) scope [("__class__", cc)] dV kV doc pm an (.ref cd) ct) (("self" : Str) :: ps) (spG C n Pg) := by
  refine ⟨fun vs H Q E q => by rw [spG_len q, List.length_cons, hlen], fun A outer s H args us vs Q E hr e0 hb r hsp => ?_⟩
  obtain ⟨oc, od, osl, lf⟩ := T.lf
  have KX : K.In s.heap := e0.mod.kin.keeps fun b o e => (e0.bs b o e).1
  have lim : s.heap.NoLimit := e0.mod.nolimit.keeps fun b o e => (e0.bs b o e).1
  refine ks_codeAny_call_defAt hr.depth (KX _ _ lf) rfl lim (PySem.W.codeRec_of KX hcd) rfl hb L.noc (fun y hy => L.par _ (List.of_mem_zip hy).1) (fun h₁ hns kp => ?_) L.co L.gen L.kind
  obtain ⟨a, ws, rfl, hl, ea, q⟩ := hsp
  obtain ⟨cl, cld, csl, lcc⟩ := T.cell
  have hcc0 : H cc = none := (e0.bs _ _ (e0.mod.kin _ _ lcc)).2
  have J : Inv (clCx P w K mg base (("self" : Str) :: ps ++ [("__class__" : Str)]) qual scope [("__class__", cc)] f cd A outer s H E) [] ((V.ref a :: ws ++ [V.ref C]).map some) H { s with heap := h₁, toks := s.toks + ((("self" : Str) :: ps).zip us).length } := by
    refine cl_start (cus := [.ref C]) (cvs := [.ref C]) L e0 hr.hd rfl (fun x y b h1 h2 => ?_) (fun i p e => ?_) r (.cons rfl .nil) (by simp [hl, hlen]) rfl hns kp
    · have g1 := PySem.mem_of_lookup h1
      have g2 := PySem.mem_of_lookup h2
      simp only [List.mem_singleton, Prod.mk.injEq] at g1 g2
      rw [g1.1, g2.1]
    · match i, e with
      | 0, e => 
        cases e
        exact ⟨hcc0, _, rfl, _, KX _ _ lcc, rfl⟩
      | i + 1, e => simp at e
  obtain ⟨t, ht, hq⟩ := hbody A outer s H E s.heap.objs.size H a ws Q hl ea q
  refine ks_wpAt_execs_cons ?_
  subst hs
  obtain ⟨pl, hev⟩ := hev s.heap.objs.size
  refine sup_step BF KF (X := clCx P w K mg base (("self" : Str) :: ps ++ [("__class__" : Str)]) qual scope [("__class__", cc)] f cd A outer s H E) O T J ea rfl rfl hks (L.cap _ (List.mem_singleton.mpr rfl)) (L.par _ (List.mem_cons_self ..)) rfl rfl rfl ?sw (pl := pl) ?ev rfl fun s1 J1 => ?_
  case sw => rfl
  case ev => exact hev
  refine wpAt_of_wpAny (wpAny_mono (ht.run [] s1 _ H _ J1 hq) (fun fl s' hs => ?_) fun e s' hs => hs)
  have fin : ∀ {σ' : L2.St} {H' : Hp} {v : V} {u : Value}, Inv (clCx P w K mg base (("self" : Str) :: ps ++ [("__class__" : Str)]) qual scope [("__class__", cc)] f cd A outer s H E) [] σ' H' s' → RelV v u → Q v H' → CE outer P w H s Q u s' :=
    fun {σ' H' v u} J rv q => ⟨v, H', J.os, J.bare, J.base, J.hok, rv, q⟩
  cases fl with
  | ret u =>
    obtain ⟨v, σ', H', J, rv, q⟩ := hs
    exact fin J rv q
  | next =>
    obtain ⟨σ', H', J, q⟩ := hs
    exact fin (v := V.non) (u := Value.none) J rfl q
  | brk =>
    obtain ⟨_, _, _, q⟩ := hs
    exact False.elim q
  | cont =>
    obtain ⟨_, _, _, q⟩ := hs
    exact False.elim q
end GT

/-! GtZ: raise, try. -/
namespace GT
open PySem PySem.Spec PyProof.Rows L2

theorem RpL.rev {C : Cst} {r : List Addr} {W : Addr → Prop} {H : Hp} : ∀ {ds : List D} {vs : List V}, RpL C r W H ds vs → RpL C r W H ds.reverse vs.reverse
  | _, _, .nil => .nil
  | _, _, .cons h t => by
    rw [List.reverse_cons, List.reverse_cons]
    exact t.rev.append (.cons h .nil)
theorem zip_fst {α β : Type} : ∀ (l : List α) (m : List β), m.length = l.length → (l.zip m).map (·.1) = l := map_fst_zip
theorem zip_snd {α β : Type} : ∀ (l : List α) (m : List β), m.length = l.length → (l.zip m).map (·.2) = m
  | [], [], _ => rfl
  | _ :: l, b :: m, h => by
    simp only [List.zip_cons_cons, List.map_cons]
    rw [zip_snd l m (by simpa using h)]
/-- an own error class c with the fields fs -/
structure ErrC (P : Program) (w : World) (base : Heap) (C : Cst) (c : Str) (fs : List Str) (Ca : Addr) : Prop where
  mg : C.mg c = some (.ref Ca)
  oex : OexC C.K Ca
  ini : ∃ fI fd ps, PySem.W.findIn C.K (.ref Ca) "__init__" = some (some (.ref fI)) ∧ PySem.W.typeIn C.K (.ref fI) = some (.type "function") ∧ FnOk P w C.K C.mg base (L2.CX P w) 1 fI fd ps (spInit Ca fs) ∧ Binds C.K fd ps []
  xf : XfC C.K Ca
  nof : ∀ f ∈ fs, PySem.W.findIn C.K (.ref Ca) f = some none
  len : fs.length ≤ 900
def mRaise (c : Str) (fs : List Str) (ms : MA) : MS := fun env g => (ms env g).bind fun ds g1 => if ds.length = fs.length then .exc c (fs.zip ds).reverse g1 else .stuck
section
variable {X : Cx} {C : Cst} {Wx : WX}
theorem ss_raise {c : Str} {fs : List Str} {Ca : Addr} {e : Expr} {es : List Expr} {p pos pos2 : Pos} {ms : MA} (hK : X.K = C.K) (hmg : X.mg = C.mg) (T : ErrC X.prog X.w X.base C c fs Ca) (hr : Room 2 X.A) (hg : Gl X c) (hc : X.calm = true) (tk : Takes X Wx) (ha : PA X (e :: es) (RA C Wx ms))
    (hdb : (c == ("__debug__" : Str)) = false := by decide) (he : starEach (e :: es) X.env = (false, eval e X.env) :: starEach es X.env := by rfl) (hpl : (backTo pos (starEach es X.env)).any (·.1) = false := by rfl) :
    PS X (.Raise (some (.Call (.Name c p) (e :: es) [] pos)) none pos2) (RS C Wx (mRaise c fs ms)) := by
  obtain ⟨fI, fd, ps, iC, tI, F1, hb⟩ := T.ini
  have O := T.oex
  have hm := T.mg
  rw [← hK] at iC tI F1 hb O
  rw [← hmg] at F1 hm
  refine PSm' (ps_raise hc tk (pmk_oex O iC tI F1 hr hb .nil (fun _ _ _ _ e s' _ z => by obtain ⟨_, _, _, _, _, _, _, _, _, _, _, _, z⟩ := z; exact z.elim) hg hm ha hdb he hpl)) fun En σ H h => ?_
  obtain ⟨H0, r0, Wo, env, oas, g, r, S, P⟩ := h
  refine ⟨_, env, oas, g, r, S.sm, (PoS.split S.st P).mono fun vs H1 ⟨ds, g1, r1, b1, st1, q1, P1⟩ => ?_⟩
  by_cases hl : ds.length = fs.length
  · replace P1 : PoS C Wx H0 r0 Wo r1 oas H1 En (if ds.length = fs.length then R.exc c (fs.zip ds).reverse g1 else R.stuck) := P1
    rw [if_pos hl] at P1
    have hlv : vs.length = fs.length := by rw [← q1.length]; exact hl
    refine ⟨by have := T.len; omega, fun a ha => ⟨a, vs, by simp, hlv, upd_same, fun d hd hda => ⟨rfl, d, (fs.zip vs).reverse, upd_same, ?_, ?_, ?_⟩⟩⟩
    · rw [upd_ne hda, upd_same]
    · rw [upd_ne hda] at hd; exact hd
    · rw [upd_ne hda] at hd
      have eH : L2.upd (L2.del (L2.upd (L2.upd (L2.upd H1 a (exo a Ca none)) d (exd d (fs.zip vs).reverse)) a (exo a Ca (some d))) a) d (.xd (fs.zip vs).reverse) = L2.upd H1 d (.xd (fs.zip vs).reverse) := by
        funext b
        by_cases hb : b = d
        · rw [hb, upd_same, upd_same]
        · rw [upd_ne hb, upd_ne hb]
          by_cases hba : b = a
          · rw [hba, del_same, ha]
          · rw [del_ne hba, upd_ne hba, upd_ne hb, upd_ne hba]
      rw [eH]
      have b2 := (b1.anti (wo_wf (Wo := Wo))).upd (o := HO.xd (fs.zip vs).reverse) hd
      refine P1 Ca (some d) σ _ r1 b2 ((S.st.trans st1).trans (Step.upd hd)) ⟨T.mg, .inr ⟨d, rfl, b1.r0 hd, fun z => b1.w0 hd (.inr z), (fs.zip vs).reverse, ?_, upd_same, ?_⟩⟩
      · rw [List.map_reverse, List.map_reverse, zip_fst _ _ hl, zip_fst _ _ hlv]
      · rw [List.map_reverse, List.map_reverse, zip_snd _ _ hl, zip_snd _ _ hlv]
        exact ((q1.anti (wo_wf (Wo := Wo))).step (Step.upd hd)).rev
  · replace P1 : PoS C Wx H0 r0 Wo r1 oas H1 En (if ds.length = fs.length then R.exc c (fs.zip ds).reverse g1 else R.stuck) := P1
    rw [if_neg hl] at P1
    exact P1.elim
end
end GT

/-! GtZa: try with several clauses «except x as n». -/
namespace GT
open PySem PySem.Spec PyProof.Rows L2

/-- a clause: its class, the slot of its name if it has one, what its suite asks -/
structure Cls where
  c : Value
  i : Option Nat
  ts : Addr → Value → Option Addr → TS
def setO (σ : L2.St) : Option Nat → Option V → L2.St
  | none, _ => σ
  | some i, v => σ.set i v
def endI (En : Ends) (i : Option Nat) : Ends := { nx := fun σ H => En.nx (setO σ i none) H, rt := En.rt, bk := fun σ H => En.bk (setO σ i none) H, ct := fun σ H => En.ct (setO σ i none) H }
/-- what the clauses wish of an error of the body -/
def wAll (K : PySem.W.Frag) (Wo : WX) (En : Ends) : List Cls → WX
  | [] => Wo
  | q :: l => fun cl d σ H => ∃ b, PySem.W.exmOne K cl q.c = some b ∧ (b = true → ∀ a, H a = none → (∀ i, q.i = some i → (σ.set i (some (.ref a)))[i]? = some (some (.ref a))) → q.ts a cl d (endI En q.i) (setO σ q.i (some (.ref a))) H) ∧ (b = false → wAll K Wo En l cl d σ H)
inductive ClsOk (X : Cx) : List ExceptHandler → List Cls → Prop
  | nil : ClsOk X [] []
  | cons {x n : Str} {i : Nat} {q : Cls} {s0 : Stmt} {su : List Stmt} {p1 p2 : Pos} {hds : List ExceptHandler} {l : List Cls} (hc : Names X x q.c) (hq : q.i = some i) (hi : X.N[i]? = some n) (hn : X.env.kindOf n = some .local)
      (hs : ∀ (a : Addr) (oe : Obj) (cl : Value) (d : Option Addr) (pn : List (Addr × Obj)), Zc cl d oe → (∃ vs, oe.data = .fields vs) → PSs (X.suite a ((a, oe) :: pn)) (s0 :: su) (q.ts a cl d)) (t : ClsOk X hds l) :
      ClsOk X (.ExceptHandler (some (.Name x p1)) (some n) (s0 :: su) p2 :: hds) (q :: l)
  | bare {x : Str} {q : Cls} {s0 : Stmt} {su : List Stmt} {p1 p2 : Pos} {hds : List ExceptHandler} {l : List Cls} (hc : Names X x q.c) (hq : q.i = none)
      (hs : ∀ (a : Addr) (oe : Obj) (cl : Value) (d : Option Addr) (pn : List (Addr × Obj)), Zc cl d oe → (∃ vs, oe.data = .fields vs) → PSs (X.suite a ((a, oe) :: pn)) (s0 :: su) (q.ts a cl d)) (t : ClsOk X hds l) :
      ClsOk X (.ExceptHandler (some (.Name x p1)) none (s0 :: su) p2 :: hds) (q :: l)
section
variable {X : Cx} {body : List Stmt} {h0 : ExceptHandler} {hds : List ExceptHandler} {l : List Cls} {pos : Pos} {tb : WX → TS} {Wo : WX}
theorem ps_tryN (hst : X.stack = X.env :: X.outer) (hfr : X.env.frame = some X.env.locals) (nd : X.N.Nodup) (tk : Takes X Wo)
    (hb : ∀ (W : WX) (pn : List (Addr × Obj)) (xe : Value → Shared → Prop), Takes (X.tr pn xe) W → PassesOwn (model X.prog X.w) X.A X.env xe → PSs (X.tr pn xe) body (tb W))
    (hh : ClsOk X (h0 :: hds) l) : PS X (.Try body (h0 :: hds) [] [] pos) (fun En σ H => tb (wAll X.K Wo En l) En σ H) := by
  refine ⟨fun pins s σ H En I hyp => ?_⟩
  have ok := I.ok
  have hA : X.A.frames = some (X.env :: X.outer) := by rw [ok.frames, hst]
  refine wpAny_Try_except ?_
  refine wpAny_mono ((hb (wAll X.K Wo En l) (X.pn ++ pins) (fun e s₁ => wpAny (model X.prog X.w) X.A (noteFrame e X.env) (fun _ s₂ => wpAny (model X.prog X.w) X.A (setFlight e none) (fun _ s₃ =>
    wpAny (model X.prog X.w) X.A (handleBy e X.env (h0 :: hds)) (SP X pins En) X.xe s₃) X.xe s₂) X.xe s₁) (fun u z xx => ?_) PassesOwn.looking).run [] s σ H En (I.toTry _) hyp) (fun f s1 hsp => ?_) (fun e s1 he => he)
  · skip
    obtain ⟨a, B, y, pins', σ1, H1, cl, d, rfl, Y', nb, up, sk, na, os, ag, wi⟩ := xx
    have Y : Inv X pins σ1 H1 y := Y'.ofTry ok
    have sk' : Sky B (X.env :: X.outer) a (Zc cl d) X.env.locals z.heap := by rw [← hst]; exact sk
    show wpAny (model X.prog X.w) X.A (noteFrame (.ref a) X.env) _ _ _
    refine Sky.land Zc.steady hA hfr sk' fun h3 f3 up3 => ?_
    have Y3 : Inv X pins σ1 H1 { z with heap := h3 } := Y.landed nb f3.1 (up.trans up3) os ag
    obtain ⟨o3, v3, e3, z3, d3⟩ := f3.there
    have nfr : a ∉ frs (X.env :: X.outer) := fun hm => by
      obtain ⟨_, o', e', hnf⟩ := f3.2.2.1.mem hm
      rw [e3] at e'; cases e'
      exact hnf _ d3
    have nL : a ≠ X.env.locals := fun z => nfr (List.mem_filterMap.mpr ⟨X.env, List.mem_cons_self, by rw [hfr, z]⟩)
    have nF : a ∉ X.fs := fun hm => by
      obtain ⟨e, he, q⟩ := List.mem_filterMap.mp hm
      exact nfr (List.mem_filterMap.mpr ⟨e, List.mem_cons_of_mem _ he, q⟩)
    have S3 := Y3.suite e3 d3 na nL nF
    have go : ∀ {hs : List ExceptHandler} {m : List Cls}, ClsOk X hs m → wAll X.K Wo En m cl d σ1 H1 → wpAny (model X.prog X.w) X.A (handleBy (.ref a) X.env hs) (SP X pins En) X.xe { z with heap := h3 } := by
      intro hs m hk
      induction hk with
      | nil =>
        intro wi
        refine wpAny_handleBy_nil ?_
        obtain ⟨k1, k2, k3, oe, vs, T, oT, ts', he, hz, hd, g1, hr⟩ := id f3
        unfold PySem.passOn
        refine wpAny_bind (wpAny_field he hd g1 ?_)
        rw [if_neg (show ¬ ((Value.ref T == Value.none) = true) from by simp)]
        have fin : wpAny (model X.prog X.w) X.A (setFlight (.ref a) X.env.frame) (fun _ s4 => wpAny (model X.prog X.w) X.A (throw (.ref a) : Sem Flow) (SP X pins En) X.xe s4) X.xe { z with heap := h3 } := by
          rw [hfr]
          refine HandSPX.setFlight_upZ f3 fun h4 g4 up4 => wpAny_throw (tk _ _ ?_)
          exact ⟨a, B, y, pins, σ1, H1, cl, d, rfl, Y, nb, (up.trans up3).trans up4, .inr (.inr (by rw [hst]; exact g4)), na, os, ag, wi⟩
        first
          | exact wpAny_bind (wpAny_pure (wpAny_bind fin))
          | exact wpAny_bind fin
      | @bare x q s0 su p1 p2 hds2 l2 hc hq hsu r ih =>
        intro wi
        obtain ⟨b, hb1, yes, no⟩ := wi
        rw [hq] at yes
        refine wpAny_handleBy_cons (codeAny_handlers_test ?_) (by intro q; cases q)
        have LT : PySem.W.Looks (model X.prog X.w) h3 (typeOf (.ref a)) cl := fun A Q E s k q => wpAny_typeOf_ref (k _ _ e3) (by rw [z3.1]; exact q)
        have LM := PySem.W.exm_one (M := model X.prog X.w) (Y3.kIn) LT hb1
        have test : ∀ {Q : Value → Shared → Prop} {E : Value → Shared → Prop}, Q q.c { z with heap := h3 } → wpAny (model X.prog X.w) (X.A.mark (some (.ref a))) (eval (.Name x p1) X.env) Q E { z with heap := h3 } := fun {Q E} k => by
          obtain ⟨hg, hdbg, hm | ⟨hm, hv, hnn⟩⟩ := hc
          · exact ld_glob (X := X.suite a ((a, o3) :: (X.pn ++ pins))) S3 hg hm k hdbg
          · exact ld_blt (X := X.suite a ((a, o3) :: (X.pn ++ pins))) S3 hg hm hv k hnn hdbg
        refine test (LM.here ?_)
        cases b with
        | true =>
          refine codeAny_handlers_suite ?_
          refine HandSPX.lands_againZ f3 fun h4 f4 up4 => ?_
          have Y4 : Inv X pins σ1 H1 { z with heap := h4 } := Y.landed nb f4.1 ((up.trans up3).trans up4) os ag
          obtain ⟨o4, v4, e4, z4, d4⟩ := f4.there
          have S4 := Y4.suite e4 d4 na nL nF
          refine wpAny_mono ((hsu a o4 cl d (X.pn ++ pins) z4 ⟨_, d4⟩).run [] _ _ H1 _ S4 (yes rfl a na (fun i z => by cases z))) (fun f s6 hsp => ?_) (fun _ _ z => False.elim z)
          cases f with
          | next =>
            obtain ⟨σ6, H6, S6, q6⟩ := hsp
            exact ⟨_, _, S6.unsuite ok, q6⟩
          | brk =>
            obtain ⟨σ6, H6, S6, q6⟩ := hsp
            exact ⟨_, _, S6.unsuite ok, q6⟩
          | cont =>
            obtain ⟨σ6, H6, S6, q6⟩ := hsp
            exact ⟨_, _, S6.unsuite ok, q6⟩
          | ret u =>
            obtain ⟨v6, σ6, H6, S6, r6, q6⟩ := hsp
            exact ⟨_, _, _, S6.unsuite ok, r6, q6⟩
        | false =>
          show wpAny _ X.A (handleBy (.ref a) X.env hds2) _ _ _
          exact ih (no rfl)
      | @cons x n i q s0 su p1 p2 hds2 l2 hc hq hi hn hsu r ih =>
        intro wi
        obtain ⟨b, hb1, yes, no⟩ := wi
        rw [hq] at yes
        refine wpAny_handleBy_cons (codeAny_handlers_test ?_) (by intro q; cases q)
        have LT : PySem.W.Looks (model X.prog X.w) h3 (typeOf (.ref a)) cl := fun A Q E s k q => wpAny_typeOf_ref (k _ _ e3) (by rw [z3.1]; exact q)
        have LM := PySem.W.exm_one (M := model X.prog X.w) (Y3.kIn) LT hb1
        have test : ∀ {Q : Value → Shared → Prop} {E : Value → Shared → Prop}, Q q.c { z with heap := h3 } → wpAny (model X.prog X.w) (X.A.mark (some (.ref a))) (eval (.Name x p1) X.env) Q E { z with heap := h3 } := fun {Q E} k => by
          obtain ⟨hg, hdbg, hm | ⟨hm, hv, hnn⟩⟩ := hc
          · exact ld_glob (X := X.suite a ((a, o3) :: (X.pn ++ pins))) S3 hg hm k hdbg
          · exact ld_blt (X := X.suite a ((a, o3) :: (X.pn ++ pins))) S3 hg hm hv k hnn hdbg
        refine test (LM.here ?_)
        cases b with
        | true =>
          refine codeAny_handlers_suite_as ?_
          refine HandSPX.lands_againZ f3 fun h4 f4 up4 => ?_
          have Y4 : Inv X pins σ1 H1 { z with heap := h4 } := Y.landed nb f4.1 ((up.trans up3).trans up4) os ag
          obtain ⟨o4, v4, e4, z4, d4⟩ := f4.there
          have S4 := Y4.suite e4 d4 na nL nF
          have hlen : (σ1.set i (some (V.ref a)))[i]? = some (some (.ref a)) := by
            have hlt : i < σ1.length := by rw [Y4.len]; exact (List.getElem?_eq_some_iff.mp hi).1
            rw [List.getElem?_set_self hlt]
          refine store_ok (X := X.suite a ((a, o4) :: (X.pn ++ pins))) (v := .ref a) S4 nd hi (.inl hn) rfl (fun s5 S5 => ?_) (.inr hn)
          refine wpAny_mono ((hsu a o4 cl d (X.pn ++ pins) z4 ⟨_, d4⟩).run [] s5 _ H1 _ S5 (yes rfl a na (fun j z => by cases z; exact hlen))) (fun f s6 hsp => ?_) (fun _ _ z => False.elim z)
          have out : ∀ {σ6 : L2.St} {H6 : Hp} {Q : Shared → Prop}, Inv (X.suite a ((a, o4) :: (X.pn ++ pins))) [] σ6 H6 s6 → (∀ s7, Inv X pins (σ6.set i none) H6 s7 → Q s7) →
              wpAny (model X.prog X.w) X.A (do bindName X.env n .none; unbindBehindTheSuite X.env n p2) (fun _ s7 => Q s7) X.xe s6 := fun {σ6 H6 Q} S6 hq => gone_ok (S6.unsuite ok) nd hi hn hq
          cases f with
          | next =>
            obtain ⟨σ6, H6, S6, q6⟩ := hsp
            exact out S6 fun s7 J7 => ⟨_, _, J7, q6⟩
          | brk =>
            obtain ⟨σ6, H6, S6, q6⟩ := hsp
            exact out S6 fun s7 J7 => ⟨_, _, J7, q6⟩
          | cont =>
            obtain ⟨σ6, H6, S6, q6⟩ := hsp
            exact out S6 fun s7 J7 => ⟨_, _, J7, q6⟩
          | ret u =>
            obtain ⟨v6, σ6, H6, S6, r6, q6⟩ := hsp
            exact out S6 fun s7 J7 => ⟨_, _, _, J7, r6, q6⟩
        | false =>
          show wpAny _ X.A (handleBy (.ref a) X.env hds2) _ _ _
          exact ih (no rfl)
    exact go hh wi
  · skip
    cases f with
    | next =>
      obtain ⟨σ', H', J', q⟩ := hsp
      exact wpAny_execs_nil ⟨σ', H', J'.ofTry ok, q⟩
    | brk =>
      obtain ⟨σ', H', J', q⟩ := hsp
      exact ⟨σ', H', J'.ofTry ok, q⟩
    | cont =>
      obtain ⟨σ', H', J', q⟩ := hsp
      exact ⟨σ', H', J'.ofTry ok, q⟩
    | ret u =>
      obtain ⟨v, σ', H', J', r, q⟩ := hsp
      exact ⟨v, σ', H', J'.ofTry ok, r, q⟩
end
end GT

/-! GtZb: try: return e; except x as n: return (word, n.f, ..) .. -/
namespace GT
open PySem PySem.Spec PyProof.Rows L2

def lookAll (fs : List (Str × α)) : List Str → Option (List α)
  | [] => some []
  | f :: l => match fs.lookup f, lookAll fs l with
    | some v, some vs => some (v :: vs)
    | _, _ => none
/-- n.f, .. of a caught error -/
def Flds (d : Option Addr) (H : Hp) (l : List Str) (vs : List V) : Prop := (l = [] ∧ vs = []) ∨ ∃ dd fs, d = some dd ∧ H dd = some (.xd fs) ∧ lookAll fs l = some vs
def tFlds (a : Addr) (cl : Value) (d : Option Addr) (Ca : Addr) (i : Nat) (l : List Str) : TA := fun σ H Q => σ[i]? = some (some (.ref a)) ∧ cl = .ref Ca ∧ ∃ vs, Flds d H l vs ∧ Q vs H
section
variable {X : Cx} {a Ca : Addr} {oe : Obj} {cl : Value} {d : Option Addr} {pn : List (Addr × Obj)} {i : Nat}
theorem pfl_nil : PA (X.suite a ((a, oe) :: pn)) [] (tFlds a cl d Ca i []) := PAm pa_nil fun σ H Q h => by
  obtain ⟨_, _, vs, h | ⟨dd, fs, _, _, e⟩, q⟩ := h
  · obtain ⟨_, rfl⟩ := h; exact q
  · cases e
    exact q
theorem pfl_cons {n f : Str} {es : List Expr} {l : List Str} {p1 p2 : Pos} (T : XfC X.K Ca) (hno : PySem.W.findIn X.K (.ref Ca) f = some none) (hz : Zc cl d oe) (hf : ∃ vs, oe.data = .fields vs) (hi : X.N[i]? = some n) (hv : Vis X.env.scope n)
    (hr : PA (X.suite a ((a, oe) :: pn)) es (tFlds a cl d Ca i l)) (hs : starEach (.Attribute (.Name n p1) f p2 :: es) X.env = (false, eval (.Attribute (.Name n p1) f p2) X.env) :: starEach es X.env := by rfl)
    (hb : attributeBase (.Name n p1) f X.env (eval (.Name n p1) X.env) = eval (.Name n p1) X.env := by rfl) (hd : (n == ("__debug__" : Str)) = false := by decide) (hcd : (n == ("__classdict__" : Str)) = false := by decide) :
    PA (X.suite a ((a, oe) :: pn)) (.Attribute (.Name n p1) f p2 :: es) (tFlds a cl d Ca i (f :: l)) := by
  refine PAm (pa_cons (pe_xf T hno hz hf (pe_var (X := X.suite a ((a, oe) :: pn)) hi hv hd hcd) hb) hr hs) fun σ H Q h => ?_
  obtain ⟨hs, hc, vs, h | ⟨dd, fs, hd, hH, e⟩, q⟩ := h
  · cases h.1
  unfold lookAll at e
  revert e
  cases e1 : fs.lookup f with
  | none => intro e; cases e
  | some v =>
    cases e2 : lookAll fs l with
    | none => intro e; cases e
    | some us =>
      intro e
      cases e
      exact ⟨_, hs, rfl, hc, dd, fs, v, hd, hH, e1, hs, hc, us, .inr ⟨dd, fs, hd, hH, e2⟩, q⟩
/-- return (word, n.f, ..) -/
def tSaid (a : Addr) (cl : Value) (d : Option Addr) (Ca : Addr) (i : Option Nat) (word : Str) (l : List Str) : TS := fun En σ H => (∀ j, i = some j → σ[j]? = some (some (.ref a))) ∧ cl = .ref Ca ∧ ∃ vs, Flds d H l vs ∧ vs.length + 1 ≤ sizeLine ∧ ∀ p, H p = none → En.rt (.ref p) (L2.upd H p (.tup (.str word :: vs)))
theorem pss_said {word : Str} {j} {p1 p2 p3 : Pos} {x1} {es : List Expr} {l : List Str} (h : PA (X.suite a ((a, oe) :: pn)) es (tFlds a cl d Ca i l)) (hs : starEach (.Constant (.str word) j p1 :: es) X.env = (false, eval (.Constant (.str word) j p1) X.env) :: starEach es X.env := by rfl) :
    PSs (X.suite a ((a, oe) :: pn)) [.Return (some (.Tuple (.Constant (.str word) j p1 :: es) x1 p2)) p3] (tSaid a cl d Ca (some i) word l) := by
  refine PSsm (pss_one (ps_ret (pe_tup (pa_cons pe_str h hs)))) fun En σ H h => ?_
  obtain ⟨h1, h2, vs, h3, h4, h5⟩ := h
  exact ⟨h1 i rfl, h2, vs, h3, h4, h5⟩
theorem pss_saidB {word : Str} {j} {p1 p2 p3 : Pos} {x1} (hs : starEach [.Constant (.str word) j p1] X.env = (false, eval (.Constant (.str word) j p1) X.env) :: starEach [] X.env := by rfl) :
    PSs (X.suite a ((a, oe) :: pn)) [.Return (some (.Tuple [.Constant (.str word) j p1] x1 p2)) p3] (tSaid a cl d Ca none word []) := by
  refine PSsm (pss_one (ps_ret (pe_tup (pa_cons pe_str pa_nil hs)))) fun En σ H h => ?_
  obtain ⟨h1, h2, vs, h3, h4, h5⟩ := h
  have e : vs = [] := by
    rcases h3 with h3 | ⟨dd, fs, _, _, e⟩
    · exact h3.2
    · cases e; rfl
  subst e
  exact ⟨h4, h5⟩
end
/-- a clause: except c as n: return (word, n.f, ..) -/
structure Sd where
  c : Str
  ca : Addr
  i : Option Nat
  word : Str
  l : List Str
def Sd.cls (q : Sd) : Cls := ⟨.ref q.ca, q.i, fun a cl d => tSaid a cl d q.ca q.i q.word q.l⟩
def Sd.told (q : Sd) : Str × Str × List Str := (q.c, q.word, q.l)
def mTryS (m : ME) (hs : List (Str × Str × List Str)) : MS := fun env g => match m env g with
  | .ok d g1 => .ok (.rt d, env) g1
  | .stuck => .stuck
  | .exc c fs g1 => match hs.find? (fun q => q.1 == c) with
    | some q => match lookAll fs q.2.2 with
      | some ds => if ds.length ≤ 1000 then .ok (.rt (.tup (.str q.2.1 :: ds)), env) g1 else .stuck
      | none => .stuck
    | none => .stuck
theorem wAll_said {K : PySem.W.Frag} {Wo : WX} {En : Ends} {c : Str} {cl : Addr} {d : Option Addr} {σ : L2.St} {H : Hp} {q0 : Sd} : ∀ {l : List Sd}, (∀ q ∈ l, PySem.W.exmOne K (.ref cl) (.ref q.ca) = some (q.c == c)) → l.find? (fun q => q.c == c) = some q0 →
    (∀ a, H a = none → (∀ i, q0.i = some i → (σ.set i (some (.ref a)))[i]? = some (some (.ref a))) → tSaid a (.ref cl) d q0.ca q0.i q0.word q0.l (endI En q0.i) (setO σ q0.i (some (.ref a))) H) → wAll K Wo En (l.map Sd.cls) (.ref cl) d σ H
  | [], _, e, _ => by cases e
  | q :: l, hx, e, h => by
    refine ⟨q.c == c, hx q (List.mem_cons_self ..), fun hb => ?_, fun hb => ?_⟩
    · rw [List.find?_cons_of_pos (by exact hb)] at e
      cases e
      exact h
    · rw [List.find?_cons_of_neg (by simp [hb])] at e
      exact wAll_said (fun q' hq => hx q' (List.mem_cons_of_mem _ hq)) e h
theorem look_rp {C : Cst} {r : List Addr} {W : Addr → Prop} {H : Hp} : ∀ {fs : List (Str × D)} {xs : List (Str × V)} {f : Str} {x : D}, fs.map (·.1) = xs.map (·.1) → RpL C r W H (fs.map (·.2)) (xs.map (·.2)) → fs.lookup f = some x → ∃ v, xs.lookup f = some v ∧ Rp C r W H x v
  | [], _, _, _, _, _, e => by cases e
  | (k, x) :: fs, [], _, _, e, _, _ => by cases e
  | (k, x) :: fs, (k', v) :: xs, f, y, e, q, l => by
    simp only [List.map_cons, List.cons.injEq] at e q
    obtain ⟨rfl, e⟩ := e
    cases q with
    | cons q1 q2 =>
      simp only [List.lookup_cons] at l ⊢
      cases hf : f == k with
      | true =>
        rw [hf] at l
        cases l
        exact ⟨v, rfl, q1⟩
      | false =>
        rw [hf] at l
        exact look_rp e q2 l
theorem lookAll_rp {C : Cst} {r : List Addr} {W : Addr → Prop} {H : Hp} {fs : List (Str × D)} {xs : List (Str × V)} (e : fs.map (·.1) = xs.map (·.1)) (q : RpL C r W H (fs.map (·.2)) (xs.map (·.2))) : ∀ {l : List Str} {ds : List D}, lookAll fs l = some ds → ∃ vs, lookAll xs l = some vs ∧ RpL C r W H ds vs
  | [], _, h => by cases h; exact ⟨[], rfl, .nil⟩
  | f :: l, ds, h => by
    unfold lookAll at h
    revert h
    cases e1 : fs.lookup f with
    | none => intro h; cases h
    | some x =>
      cases e2 : lookAll fs l with
      | none => intro h; cases h
      | some es =>
        intro h
        cases h
        obtain ⟨v, h1, h2⟩ := look_rp e q e1
        obtain ⟨vs, h3, h4⟩ := lookAll_rp e q e2
        exact ⟨v :: vs, by unfold lookAll; rw [h1, h3], .cons h2 h4⟩
theorem find_told {c : Str} : ∀ {qs : List Sd} {t : Str × Str × List Str}, (qs.map Sd.told).find? (fun q => q.1 == c) = some t → ∃ q, qs.find? (fun q => q.c == c) = some q ∧ t = q.told ∧ q ∈ qs ∧ q.c = c
  | [], _, e => by cases e
  | q :: qs, t, e => by
    cases hb : q.c == c with
    | true =>
      rw [List.map_cons, List.find?_cons_of_pos (by exact hb)] at e
      cases e
      exact ⟨q, List.find?_cons_of_pos hb, rfl, List.mem_cons_self .., eq_of_beq hb⟩
    | false =>
      rw [List.map_cons, List.find?_cons_of_neg (by show ¬ (q.c == c) = true; simp [hb])] at e
      obtain ⟨q', h1, h2, h3, h4⟩ := find_told e
      exact ⟨q', by rw [List.find?_cons_of_neg (by simp [hb])]; exact h1, h2, List.mem_cons_of_mem _ h3, h4⟩
section
variable {X : Cx} {C : Cst} {Wx : WX}
theorem ss_tryS {e : Expr} {h0 : ExceptHandler} {hds : List ExceptHandler} {p1 pos : Pos} {m : ME} (qs : List Sd) (hst : X.stack = X.env :: X.outer) (hfr : X.env.frame = some X.env.locals) (nd : X.N.Nodup) (hK : X.K = C.K) (tk : Takes X Wx)
    (hb : ∀ (W : WX) (pn : List (Addr × Obj)) (xe : Value → Shared → Prop), Takes (X.tr pn xe) W → PE (X.tr pn xe) e (RE C W m)) (hh : ClsOk X (h0 :: hds) (qs.map Sd.cls))
    (hex : ∀ p ∈ qs, ∀ q ∈ qs, PySem.W.exmOne C.K (.ref p.ca) (.ref q.ca) = some (q.c == p.c)) (hmg : ∀ q ∈ qs, C.mg q.c = some (.ref q.ca)) :
    PS X (.Try [.Return (some e) p1] (h0 :: hds) [] [] pos) (RS C Wx (mTryS m (qs.map Sd.told))) := by
  refine PSm' (ps_tryN (tb := fun W => RS C W (mRet m)) hst hfr nd tk (fun W pn xe t _ => pss_one (ss_ret (hb W pn xe t))) hh) fun En σ H h => ?_
  obtain ⟨H0, r0, Wo, env, oas, g, r, S, P⟩ := h
  refine ⟨H0, r0, Wo, env, oas, g, r, S, ?_⟩
  unfold mTryS at P
  unfold mRet
  revert P
  cases m env g with
  | stuck => exact fun P => P
  | ok d g1 => exact fun P => P
  | exc c fs g1 =>
    intro P
    show ∀ cl dx σ' H' r', Bs C Wo g1 r' H' → Step r0 r' H0 H' → ExR C r' Wo H' c fs cl dx → _
    intro cl dx σ' H' r' b st x
    obtain ⟨x1, x⟩ := x
    revert P
    dsimp only
    cases ef : (qs.map Sd.told).find? (fun q => q.1 == c) with
    | none => exact fun P => P.elim
    | some t =>
      obtain ⟨q, f1, rfl, f3, f4⟩ := find_told ef
      dsimp only
      cases el : lookAll fs q.told.2.2 with
      | none => exact fun P => P.elim
      | some ds =>
        dsimp only
        intro P
        by_cases hz : ds.length ≤ 1000
        · rw [if_pos hz] at P
          obtain ⟨vs, v1, v2⟩ : ∃ vs, Flds dx H' q.l vs ∧ RpL C r' Wo H' ds vs := by
            rcases x with ⟨_, rfl⟩ | ⟨dd, rfl, x2, x3, xs, x4, x5, x6⟩
            · have el' : lookAll ([] : List (Str × D)) q.l = some ds := el
              cases hq : q.l with
              | nil => rw [hq] at el'; cases el'; exact ⟨[], .inl ⟨rfl, rfl⟩, .nil⟩
              | cons f l => rw [hq] at el'; unfold lookAll at el'; cases el'
            · obtain ⟨vs, v1, v2⟩ := lookAll_rp x4 x6 el
              exact ⟨vs, .inr ⟨dd, xs, rfl, x5, v1⟩, v2⟩
          have hcl : cl = q.ca := by
            have := hmg q f3
            rw [f4, x1] at this
            cases this
            rfl
          subst hcl
          refine wAll_said (q0 := q) (fun p hp => ?_) f1 fun a ha hs => ⟨fun j hj => by rw [hj]; exact hs j hj, rfl, vs, v1, ?_, fun p hp => ?_⟩
          · rw [hK, ← f4]
            exact hex q f3 p hp
          · rw [← v2.length, sizeLine_eq]
            omega
          · exact P _ _ r' (b.upd hp) (st.trans (Step.upd hp)) (Rp.newT b hp (by rw [List.length_cons, ← v2.length, sizeLine_eq]; omega) (.cons (.str _) v2))
        · rw [if_neg hz] at P
          exact P.elim
end
end GT

/-! GtZc: what the head must tell of an own error class; how a lambda's arguments bind. -/
namespace GT
open PySem PySem.Spec PyProof.Rows L2

theorem bind_none {L : Lam} {ps : List Str} (hd : L.dfl = none) (hb : ∀ (cl : List (Str × Addr)) (pm cv : Value) (ct : Value × Value) (us : List Value), us.length = ps.length → bindArgs (lamFn L cl pm cv ct .none) ⟨us, []⟩ = pure (ps.zip us)) :
    ∀ (cl : List (Str × Addr)) (pm cv : Value) (ct : Value × Value) (dV : Value) (us du : List Value) (s : Shared), DfH s.heap L.dfl dV du → (us ++ du).length = ps.length → BindsTo s (lamFn L cl pm cv ct dV) ⟨us, []⟩ (ps.zip (us ++ du)) := fun cl pm cv ct dV us du s h hl => by
  rw [hd] at h
  cases h
  rw [List.append_nil] at hl ⊢
  exact .of_eq (hb cl pm cv ct us hl)
theorem bind_some {L : Lam} {x : Str} {k : Int} (hd : L.dfl = some k) (hb : ∀ (cl : List (Str × Addr)) (pm cv : Value) (ct : Value × Value) (T : Addr), ∃ kk, bindArgs (lamFn L cl pm cv ct (.ref T)) ⟨[], []⟩ = seqItems? (.ref T) >>= kk ∧ ∀ v, kk (some #[v]) = pure [(x, v)]) :
    ∀ (cl : List (Str × Addr)) (pm cv : Value) (ct : Value × Value) (dV : Value) (us du : List Value) (s : Shared), DfH s.heap L.dfl dV du → (us ++ du).length = [x].length → BindsTo s (lamFn L cl pm cv ct dV) ⟨us, []⟩ ([x].zip (us ++ du)) := fun cl pm cv ct dV us du s h hl => by
  rw [hd] at h
  cases h with
  | int e d =>
    have hu : us = [] := by
      rw [List.length_append] at hl
      exact List.eq_nil_of_length_eq_zero (by simpa using hl)
    subst hu
    exact bind_dfl (hb cl pm cv ct _) e d
/-- an own error class as the top has left it -/
theorem err_mk {P : Program} {w : World} {K : PySem.W.Frag} {mg : Str → Option Value} {base : Heap} {C : Cst} (hK : C.K = K) (hmg : C.mg = mg) {c : Str} {fs ps : List Str} {Ca fI cc cd N : Addr} {nm q qual : Str} {params : Arguments} {scope : Scope} {rest : List Stmt} {tx : Str} {j : Nat} {p0 p1 p2 p3 p4 p5 : Pos}
    {bs bm sub : List Value} {sn : List Str} {ab : Bool} {col : Option Bool} {dd : Option Addr} {k0 k1 k2 k3 k5 : Option Value} {oc oc2 oc3 kV doc pm ct : Value} {od od2 od3 an : Option Addr} {osl osl2 osl3 : Array (Option Value)} {vs : Array Value} {file : Str} {tf : Tok} {cdC : ClassData}
    (m1 : mg c = some (.ref Ca)) (l1 : K.lookup Ca = some (excClassObj nm q Ca N bs bm true sn sub ab col dd k0 k1 k2 k3 k5 "ValueError.__new__")) (l2 : PySem.HandSPX.refsVE bm = true) (s1 : PySem.W.findIn K (.ref Ca) "__setattr__" = some (some (.builtin "object.__setattr__")))
    (s2 : PySem.W.subIn K (.ref Ca) (.type "BaseException") = some true) (s3 : PySem.W.typeIn K (.ref Ca) = some (.type "type")) (s4 : PySem.W.keepIn K (.ref Ca) = true)
    (i1 : PySem.W.findIn K (.ref Ca) "__init__" = some (some (.ref fI))) (i2 : PySem.W.typeIn K (.ref fI) = some (.type "function"))
    (i3 : K.lookup fI = some ⟨oc, od, .func (PySem.W.fnX "__init__" qual params (.Expr (.Call (.Attribute (.Call (.Name "super" p0) [] [] p1) "__init__" p2) [.Constant (.str tx) j p3] [] p4) p5 :: rest) scope [("__class__", cc)] .none kV doc pm an (.ref cd) ct), osl⟩)
    (i4 : PySem.W.codeIn K (.ref cd) qual = true) (i5 : K.lookup cd = some ⟨oc2, od2, .fields vs, osl2⟩) (i6 : vs[2]? = some (.str file tf)) (i7 : ((P.main.file : Str) == file) = true) (i8 : K.lookup cc = some ⟨oc3, od3, .cell (some (.ref Ca)), osl3⟩)
    (c1 : PySem.W.clsIn K Ca = some cdC) (c2 : PySem.W.alongIn K "__init__" ((cdC.mro.dropWhile (· != .ref Ca)).drop 1) = some (some (.builtin "ValueError.__init__"))) (c3 : PySem.W.mroIn K Ca (.ref Ca) = some true) (c4 : mg "super" = none)
    (c5 : (P.main.scope.names.lookup ("super" : Str)).isSome = false) (c6 : PySem.W.nsIn K cStatics "thirdparty.any" = some none) (c7 : PySem.W.subIn K (.ref Ca) (.type "ValueError") = some true)
    (f1 : ∀ f ∈ fs, PySem.W.findIn K (.ref Ca) f = some none) (f2 : PySem.W.findIn K (.ref Ca) "__getattribute__" = some (some (.builtin "BaseException.__getattribute__"))) (f3 : PySem.W.findIn K (.ref Ca) "__getattr__" = some none) (f4 : PySem.W.hasDictIn K Ca = true)
    (hself : ∃ ar, (params.posonlyargs ++ params.args).head? = some ar ∧ ar.arg = "self") (L : LamSc scope (("self" : Str) :: ps) ["__class__"]) (hks : scope.names.lookup ("super" : Str) = some .globalImplicit) (hlen : ps.length = fs.length) (hfl : fs.length ≤ 900)
    (hbnd : ∀ us : List Value, us.length = ps.length + 1 → bindArgs (PySem.W.fnX "__init__" qual params (.Expr (.Call (.Attribute (.Call (.Name "super" p0) [] [] p1) "__init__" p2) [.Constant (.str tx) j p3] [] p4) p5 :: rest) scope [("__class__", cc)] .none kV doc pm an (.ref cd) ct) ⟨us, []⟩ = pure ((("self" : Str) :: ps).zip us))
    (hev : ∀ L' : Addr, ∃ pl : Sem Bool, eval (.Call (.Attribute (.Call (.Name "super" p0) [] [] p1) "__init__" p2) [.Constant (.str tx) j p3] [] p4) (clEnv qual scope [("__class__", cc)] L' fI cd) = (do
      let ov ← attributeBase (.Call (.Name "super" p0) [] [] p1) "__init__" (clEnv qual scope [("__class__", cc)] L' fI cd) (eval (.Call (.Name "super" p0) [] [] p1) (clEnv qual scope [("__class__", cc)] L' fI cd))
      standAt p2.atName
      let (g, first) ← holding [ov] (getMethod ov "__init__" pl)
      callWith p4 g first (backTo p4 (starEach [.Constant (.str tx) j p3] (clEnv qual scope [("__class__", cc)] L' fI cd))) []))
    (hbody : OexC K Ca → ∀ (A : Around) (outer : List Env) (s : Shared) (H : Hp) (E : XK) (L' : Addr) (H0 : Hp) (a : Addr) (ws : List V) (Q : VK), ws.length = fs.length → H a = some (exo a Ca none) → (∀ d, H d = none → d ≠ a → Q .non (upd (upd H d (exd d (fs.zip ws).reverse)) a (exo a Ca (some d)))) →
      ∃ t, PSs (clCx P w K mg base (("self" : Str) :: ps ++ [("__class__" : Str)]) qual scope [("__class__", cc)] fI cd A outer s H0 E) rest t ∧ t { nx := fun _ H' => Q .non H', rt := Q } ((V.ref a :: ws ++ [V.ref Ca]).map some) H) :
    ErrC P w base C c fs Ca := by
  subst hK hmg
  have O : OexC C.K Ca := ⟨⟨nm, q, N, bs, bm, sn, sub, ab, col, dd, k0, k1, k2, k3, k5, l1, l2⟩, s1, s2, s3, s4⟩
  refine ⟨m1, O, ⟨fI, _, ("self" : Str) :: ps, i1, i2, ?_, .all hbnd⟩, ⟨f2, f3, s2, f4⟩, f1, hfl⟩
  exact init_fnG PySem.F.excBase_ValueError PySem.W.kxs_ValueError (OexC.clsB O) ⟨⟨_, _, _, i3⟩, hself, ⟨_, _, _, _, _, _, i5, i6, i7⟩, ⟨_, _, _, i8⟩, ⟨_, c1, c2⟩, c3, c4, c5, c6, c7⟩ rfl i4 L hlen hks hev (hbody O)
/-- the fields of an __init__: one -/
theorem body1 {X : Cx} {f x : Str} {Ca a : Addr} {v : V} {l : List V} {po p1 p2 p3 : Pos} {H : Hp} {Q : VK} (O : OexC X.K Ca) (nof : PySem.W.findIn X.K (.ref Ca) f = some none) (ha : H a = some (exo a Ca none))
    (hs : PE X (.Name "self" po) (tVar 0)) (hx : PE X (.Name x p2) (tVar 1)) (hsw : swapsWith (.Name x p2) (some (.Attribute (.Name "self" po) f p1)) p3.line X.env = pure false)
    (h : ∀ d, H d = none → d ≠ a → Q .non (upd (upd H d (exd d [(f, v)])) a (exo a Ca (some d)))) :
    ∃ t, PSs X [.Assign [.Attribute (.Name "self" po) f p1] (.Name x p2) p3] t ∧ t { nx := fun _ H' => Q .non H', rt := Q } ((V.ref a :: v :: l).map some) H :=
  ⟨_, pss_one (ps_ost hs hx hsw), v, rfl, .ref a, rfl, a, Ca, rfl, O, nof, .inl ⟨ha, fun dx hd hda => h dx hd hda⟩⟩
theorem body2 {X : Cx} {f x g y : Str} {Ca a : Addr} {v w : V} {l : List V} {po p1 p2 p3 po' p1' p2' p3' : Pos} {H : Hp} {Q : VK} (O : OexC X.K Ca) (nof : PySem.W.findIn X.K (.ref Ca) f = some none) (nog : PySem.W.findIn X.K (.ref Ca) g = some none) (ha : H a = some (exo a Ca none))
    (hs : PE X (.Name "self" po) (tVar 0)) (hx : PE X (.Name x p2) (tVar 1)) (hsw : swapsWith (.Name x p2) (some (.Attribute (.Name "self" po) f p1)) p3.line X.env = pure false)
    (hs' : PE X (.Name "self" po') (tVar 0)) (hx' : PE X (.Name y p2') (tVar 2)) (hsw' : swapsWith (.Name y p2') (some (.Attribute (.Name "self" po') g p1')) p3'.line X.env = pure false)
    (h : ∀ d, H d = none → d ≠ a → Q .non (upd (upd H d (exd d [(g, w), (f, v)])) a (exo a Ca (some d)))) :
    ∃ t, PSs X [.Assign [.Attribute (.Name "self" po) f p1] (.Name x p2) p3, .Assign [.Attribute (.Name "self" po') g p1'] (.Name y p2') p3'] t ∧ t { nx := fun _ H' => Q .non H', rt := Q } ((V.ref a :: v :: w :: l).map some) H := by
  refine ⟨_, pss_cons (ps_ost hs hx hsw) (pss_one (ps_ost hs' hx' hsw')), v, rfl, .ref a, rfl, a, Ca, rfl, O, nof, .inl ⟨ha, fun dx hd hda => ?_⟩⟩
  refine ⟨w, rfl, .ref a, rfl, a, Ca, rfl, O, nog, .inr ⟨dx, [(f, v)], upd_same, by rw [upd_ne hda, upd_same], by show 1 ≤ 900; decide, ?_⟩⟩
  have e : upd (upd (upd H dx (exd dx [(f, v)])) a (exo a Ca (some dx))) dx (exd dx [(g, w), (f, v)]) = upd (upd H dx (exd dx [(g, w), (f, v)])) a (exo a Ca (some dx)) := by
    funext b
    by_cases h1 : b = dx
    · rw [h1, upd_same, upd_ne hda, upd_same]
    · rw [upd_ne h1]
      by_cases h2 : b = a
      · rw [h2, upd_same, upd_same]
      · rw [upd_ne h2, upd_ne h2, upd_ne h1, upd_ne h1]
  rw [e]
  exact h dx hd hda
/-- which errors are caught by which classes -/
def ExAll (K : PySem.W.Frag) (l : List (Str × Addr)) : Prop := ∀ p ∈ l, ∀ q ∈ l, PySem.W.exmOne K (.ref p.2) (.ref q.2) = some (q.1 == p.1)
theorem ExAll.sd {K : PySem.W.Frag} {l : List (Str × Addr)} (h : ExAll K l) {qs : List Sd} (hs : ∀ q ∈ qs, (q.c, q.ca) ∈ l) : ∀ p ∈ qs, ∀ q ∈ qs, PySem.W.exmOne K (.ref p.ca) (.ref q.ca) = some (q.c == p.c) := fun p hp q hq => h _ (hs p hp) _ (hs q hq)
theorem fa_nil {α : Type} {p : α → Prop} : ∀ q ∈ ([] : List α), p q := fun q h => by cases h
theorem fa_cons {α : Type} {p : α → Prop} {a : α} {l : List α} (h : p a) (t : ∀ q ∈ l, p q) : ∀ q ∈ a :: l, p q := fun q hq => by
  rcases List.mem_cons.mp hq with e | e
  · rw [e]; exact h
  · exact t q e
theorem exm_mk {K : PySem.W.Frag} {Ca Cb : Addr} {b : Bool} (h1 : PySem.W.subIn K (.ref Cb) (.type "BaseException") = some true) (h2 : PySem.W.hasDictIn K Cb = true) (h3 : PySem.W.typeIn K (.ref Cb) = some (.type "type")) (h4 : PySem.W.subIn K (.ref Ca) (.ref Cb) = some b) : PySem.W.exmOne K (.ref Ca) (.ref Cb) = some b := PySem.W.exm_ref h1 h2 h3 h4
end GT

/-! GtZd: raise C() of an own error without fields, whatever its base. -/
namespace GT
open PySem PySem.Spec PyProof.Rows L2

/-- an own error class c without fields -/
structure Err0 (P : Program) (w : World) (base : Heap) (C : Cst) (c : Str) (Ca : Addr) : Prop where
  mg : C.mg c = some (.ref Ca)
  exC : PySem.W.subIn C.K (.ref Ca) (.type "BaseException") = some true
  tyC : PySem.W.typeIn C.K (.ref Ca) = some (.type "type")
  kC : PySem.W.keepIn C.K (.ref Ca) = true
  cls : ∃ B newId initId bmB, ExcBaseFacts B newId initId bmB ∧ ClsB C.K Ca newId bmB
  ini : ∃ fI fd, PySem.W.findIn C.K (.ref Ca) "__init__" = some (some (.ref fI)) ∧ PySem.W.typeIn C.K (.ref fI) = some (.type "function") ∧ FnOk P w C.K C.mg base (L2.CX P w) 1 fI fd [("self" : Str)] (spG Ca 0 fun _ _ H Q => Q .non H) ∧ Binds C.K fd [("self" : Str)] []
def mRaise0 (c : Str) : MS := fun _ g => .exc c [] g
section
variable {X : Cx} {C : Cst} {Wx : WX}
/-- the error is let go, it has no dict -/
theorem bare_end {pins : List (Addr × Obj)} {σ : L2.St} {H : Hp} {h h1 h2 : Heap} {g g2 : Array GenState} {d d2 : Drawn} {t t2 : Nat} {os os2 : OsState} {a Ca : Addr} (I : Inv X pins σ H ⟨h, g, d, t, os⟩) (sz : h.objs.size ≤ a) (k : ∀ b o, h.get? b = some o → h1.get? b = some o)
    (un : Un (frs X.stack) [] (upd H a (exo a Ca none)) (upd H a (exo a Ca none)) h1 h2) (hok : HOk X.prog X.w (upd H a (exo a Ca none)) h2) (ho : os2 = os) (hb : AllBare g2) :
    ∃ (t0 : Addr) (G : Heap), Inv X pins σ H ⟨G, g2, d2, t2, os2⟩ ∧ (∀ b o, G.get? b = some o → h2.get? b = some o) ∧ G.get? a = none ∧ h2.get? a = some ({ cls := .ref Ca, dict := none, data := .fields #[.ref t0, .none, .none, .none, .bool false, .none] } : Obj) ∧ H a = none := by
  have e0 : H a = none := I.hok.fresh sz
  obtain ⟨t0, at2⟩ := exo_at hok (upd_same (H := H) (a := a) (o := exo a Ca none))
  obtain ⟨G, in1, in2⟩ := restrict h2 fun b => decide (b ≠ a)
  have same : ∀ b, b ≠ a → G.get? b = h2.get? b := fun b q => in1 b (decide_eq_true q)
  have gone : G.get? a = none := in2 a (by simp)
  have old : ∀ {b : Addr} {o : Obj}, h.get? b = some o → b ≠ a := fun {b o} z => Nat.ne_of_lt (Nat.lt_of_lt_of_le (Heap.lt_size z) sz)
  have lift : ∀ {b : Addr} {u : Option HO}, b ≠ a → H b = u → upd H a (exo a Ca none) b = u := fun {b u} q e => (upd_ne q).trans e
  have U : Un (frs X.stack) [] H H h G := {
    keep := fun b o z n q r => (same b (old z)).trans (un.keep b o (k b o z) (lift (old z) n) q r)
    slot := fun b o z n q r => by
      rw [same b (old z)]
      exact un.slot b o (k b o z) (lift (old z) n) q r
    free := fun b o z n q => n
    there := fun b o z q => by
      rw [same b (old z)]
      exact un.there b o (k b o z) q
    tups := fun b xs z => z
    frzs := fun b o v z => z
    tbls := fun b ps z => ⟨#[], by rw [Array.append_empty]; exact z⟩ }
  have fine : HOk X.prog X.w H G := fun b o z => by
    have hba : b ≠ a := ne_of_none z e0
    refine (hok b o (lift hba z)).stay (fun c v q y => ?_) (fun c q => ?_) fun c xs q => ?_
    · have hca : c ≠ a := by
        rcases q with q | q
        · rw [q]; exact hba
        · exact fun z => by rw [z, upd_same] at q; exact exo_own (Option.some.inj q)
      rw [same c hca]; exact y
    · by_cases hca : c = a
      · rw [hca, upd_same] at q; exact absurd (Option.some.inj q) exo_own
      · rw [upd_ne hca] at q; exact q
    · by_cases hca : c = a
      · rw [hca, upd_same] at q; exact absurd (Option.some.inj q) exo_tup
      · rw [upd_ne hca] at q; exact q
  exact ⟨t0, G, I.call' (ch := []) ho U fine hb (fun b z => absurd z (by simp)), fun b o z => by
    by_cases q : b = a
    · rw [q, gone] at z; cases z
    · exact (same b q).symm.trans z, gone, at2, e0⟩
/-- C() of an own error without fields -/
theorem pmk_bare {c : Str} {Ca : Addr} {p pos : Pos} (hK : X.K = C.K) (hmg : X.mg = C.mg) (T : Err0 X.prog X.w X.base C c Ca) (hr : Room 2 X.A) (hg : Gl X c) (hdb : (c == ("__debug__" : Str)) = false := by decide) :
    PMk X (.Call (.Name c p) [] [] pos) (fun _ H Q => Q (.ref Ca) none H) := by
  intro pins s σ H Q I q
  obtain ⟨fI, fd, iC, tI, F1, hb⟩ := T.ini
  obtain ⟨B, newId, initId, bmB, BF, nm, qn, N, bs, bm, sn, sub, ab, col, dd, k0, k1, k2, k3, k5, lC, hbm⟩ := T.cls
  have hm := T.mg
  have kC := T.kC
  have exC := T.exC
  have tyC := T.tyC
  rw [← hK] at iC tI F1 hb lC kC exC tyC
  rw [← hmg] at F1 hm
  refine wpAny_Call_Name_kw (ld_glob I hg hm ?_ hdb)
  refine PySem.W.callWith_K0 I.kIn kC ?_
  show wpAny _ _ (call (.ref Ca) []) _ _ _
  obtain ⟨h, g, d, t, os⟩ := s
  let h1 := (h.push (PySem.W.kdv_tup [])).push (PySem.HandSPX.excO Ca h.objs.size)
  have up : ∀ b o, h.get? b = some o → h1.get? b = some o := fun b o e => Heap.get?_push_of_some _ (Heap.get?_push_of_some _ e)
  have new : h1.get? (h.objs.size + 1) = some (PySem.HandSPX.excO Ca h.objs.size) := by
    show ((h.push (PySem.W.kdv_tup [])).push (PySem.HandSPX.excO Ca h.objs.size)).get? (h.objs.size + 1) = _
    heap_get
  have I2 : Inv X pins σ (upd H (h.objs.size + 1) (exo (h.objs.size + 1) Ca none)) ⟨h1, g, d, t, os⟩ := I.laid (t' := t) (a := h.objs.size + 1) (o := exo (h.objs.size + 1) Ca none) (h' := h1) up (Nat.le_succ _) (exo_ok new)
  refine wpAny_call (PySem.HandSPX.call_own BF hbm (I.kIn _ _ lC) (PySem.W.looks_findIn I.kIn iC) (fun self => PySem.W.bind_fn I.kIn self tI) (by rw [sizeLine_eq]; show 0 ≤ _; decide) ?_)
  refine codeAny_mono (F1.run _ X.stack _ _ ⟨[Value.ref (h.objs.size + 1)], []⟩ [Value.ref (h.objs.size + 1)] [V.ref (h.objs.size + 1)] (fun v H2 => v = .non ∧ H2 = upd H (h.objs.size + 1) (exo (h.objs.size + 1) Ca none)) (fun _ _ _ => False) (hr.make Ca [] []) (I2.env0.make Ca [] [])
    (hb _ [Value.ref (h.objs.size + 1)] I2.kIn rfl) (.cons rfl .nil) ⟨_, [], rfl, rfl, upd_same, rfl, rfl⟩) fun r s' z => ?_
  cases r with
  | error er =>
    obtain ⟨_, _, _, _, _, _, _, _, _, _, _, _, z⟩ := z
    exact z.elim
  | ok fl =>
    cases fl with
    | ret u =>
      obtain ⟨v, H2, ho, bare, un, hok, rv, ev, eH⟩ := z
      subst ev eH
      obtain ⟨h2, g2, d2, t2, os2⟩ := s'
      obtain ⟨t0, G, J, kG, ge, at2, na⟩ := bare_end (d2 := d2) (t2 := t2) I (Nat.le_succ _) up un hok ho bare
      exact ⟨rv, h.objs.size + 1, _, _, ⟨G, g2, d2, t2, os2⟩, H, .ref Ca, none, rfl, J, kG, ge, at2, ⟨rfl, rfl⟩, rfl, rfl, na, rfl, bare, raises_own exC tyC, q⟩
    | next => exact z.elim
    | brk => exact z.elim
    | cont => exact z.elim
theorem ss_raise0 {c : Str} {Ca : Addr} {p pos pos2 : Pos} (hK : X.K = C.K) (hmg : X.mg = C.mg) (T : Err0 X.prog X.w X.base C c Ca) (hr : Room 2 X.A) (hg : Gl X c) (hc : X.calm = true) (tk : Takes X Wx) (hdb : (c == ("__debug__" : Str)) = false := by decide) :
    PS X (.Raise (some (.Call (.Name c p) [] [] pos)) none pos2) (RS C Wx (mRaise0 c)) := by
  refine PSm' (ps_raise hc tk (pmk_bare hK hmg T hr hg hdb)) fun En σ H h => ?_
  obtain ⟨H0, r0, Wo, env, oas, g, r, S, P⟩ := h
  exact P Ca none σ H r (S.sm.bs.anti (wo_wf (Wo := Wo))) S.st ⟨T.mg, .inl ⟨rfl, rfl⟩⟩
end
/-- an own error class without fields as the top has left it -/
theorem err0_mk {P : Program} {w : World} {K : PySem.W.Frag} {mg : Str → Option Value} {base : Heap} {C : Cst} (hK : C.K = K) (hmg : C.mg = mg) {B newId initId : String} {bmB : List Value} (BF : ExcBaseFacts B newId initId bmB) (KF : PySem.W.KxsFacts B initId) {c : Str} {Ca fI cc cd N : Addr} {nm q qual : Str} {params : Arguments} {scope : Scope} {tx : Str} {j : Nat} {p0 p1 p2 p3 p4 p5 : Pos}
    {bs bm sub : List Value} {sn : List Str} {ab : Bool} {col : Option Bool} {dd : Option Addr} {k0 k1 k2 k3 k5 : Option Value} {oc oc2 oc3 kV doc pm ct : Value} {od od2 od3 an : Option Addr} {osl osl2 osl3 : Array (Option Value)} {vs : Array Value} {file : Str} {tf : Tok} {cdC : ClassData}
    (m1 : mg c = some (.ref Ca)) (l1 : K.lookup Ca = some (excClassObj nm q Ca N bs bm true sn sub ab col dd k0 k1 k2 k3 k5 newId)) (l2 : bm = bmB)
    (s2 : PySem.W.subIn K (.ref Ca) (.type "BaseException") = some true) (s3 : PySem.W.typeIn K (.ref Ca) = some (.type "type")) (s4 : PySem.W.keepIn K (.ref Ca) = true)
    (i1 : PySem.W.findIn K (.ref Ca) "__init__" = some (some (.ref fI))) (i2 : PySem.W.typeIn K (.ref fI) = some (.type "function"))
    (i3 : K.lookup fI = some ⟨oc, od, .func (PySem.W.fnX "__init__" qual params [.Expr (.Call (.Attribute (.Call (.Name "super" p0) [] [] p1) "__init__" p2) [.Constant (.str tx) j p3] [] p4) p5] scope [("__class__", cc)] .none kV doc pm an (.ref cd) ct), osl⟩)
    (i4 : PySem.W.codeIn K (.ref cd) qual = true) (i5 : K.lookup cd = some ⟨oc2, od2, .fields vs, osl2⟩) (i6 : vs[2]? = some (.str file tf)) (i7 : ((P.main.file : Str) == file) = true) (i8 : K.lookup cc = some ⟨oc3, od3, .cell (some (.ref Ca)), osl3⟩)
    (c1 : PySem.W.clsIn K Ca = some cdC) (c2 : PySem.W.alongIn K "__init__" ((cdC.mro.dropWhile (· != .ref Ca)).drop 1) = some (some (.builtin initId))) (c3 : PySem.W.mroIn K Ca (.ref Ca) = some true) (c4 : mg "super" = none)
    (c5 : (P.main.scope.names.lookup ("super" : Str)).isSome = false) (c6 : PySem.W.nsIn K cStatics "thirdparty.any" = some none) (c7 : PySem.W.subIn K (.ref Ca) (.type B) = some true)
    (hself : ∃ ar, (params.posonlyargs ++ params.args).head? = some ar ∧ ar.arg = "self") (L : LamSc scope [("self" : Str)] ["__class__"]) (hks : scope.names.lookup ("super" : Str) = some .globalImplicit)
    (hbnd : ∀ us : List Value, us.length = 1 → bindArgs (PySem.W.fnX "__init__" qual params [.Expr (.Call (.Attribute (.Call (.Name "super" p0) [] [] p1) "__init__" p2) [.Constant (.str tx) j p3] [] p4) p5] scope [("__class__", cc)] .none kV doc pm an (.ref cd) ct) ⟨us, []⟩ = pure ([("self" : Str)].zip us))
    (hev : ∀ L' : Addr, ∃ pl : Sem Bool, eval (.Call (.Attribute (.Call (.Name "super" p0) [] [] p1) "__init__" p2) [.Constant (.str tx) j p3] [] p4) (clEnv qual scope [("__class__", cc)] L' fI cd) = (do
      let ov ← attributeBase (.Call (.Name "super" p0) [] [] p1) "__init__" (clEnv qual scope [("__class__", cc)] L' fI cd) (eval (.Call (.Name "super" p0) [] [] p1) (clEnv qual scope [("__class__", cc)] L' fI cd))
      standAt p2.atName
      let (g, first) ← holding [ov] (getMethod ov "__init__" pl)
      callWith p4 g first (backTo p4 (starEach [.Constant (.str tx) j p3] (clEnv qual scope [("__class__", cc)] L' fI cd))) [])) :
    Err0 P w base C c Ca := by
  subst hK hmg l2
  have O : ClsB C.K Ca newId bm := ⟨nm, q, N, bs, bm, sn, sub, ab, col, dd, k0, k1, k2, k3, k5, l1, fun _ => rfl⟩
  refine ⟨m1, s2, s3, s4, ⟨B, newId, initId, bm, BF, O⟩, fI, _, i1, i2, ?_, .all hbnd⟩
  refine init_fnG (ps := []) BF KF O ⟨⟨_, _, _, i3⟩, hself, ⟨_, _, _, _, _, _, i5, i6, i7⟩, ⟨_, _, _, i8⟩, ⟨_, c1, c2⟩, c3, c4, c5, c6, c7⟩ rfl i4 L rfl hks hev ?_
  intro A outer s H E L' H0 a ws Q hl ha q
  exact ⟨_, pss_nil, q⟩
end GT

/-! GtZr: repr. -/
namespace GT
open PySem PySem.Spec PyProof.Rows L2

/-! ### data with dicts as the library's data -/
def kP : Key → PyData
  | .inl i => .int i
  | .inr x => .str x
mutual
def D.pr : D → Option PyData
  | .non => some .none
  | .bl b => some (.bool b)
  | .int i => some (.int i)
  | .str x => some (.str x)
  | .lst xs => (D.prs xs).map .list
  | .tup xs => (D.prs xs).map .tuple
  | .dK kvs => (D.prK kvs).map .dict
  | .scr _ => none
  | .dT _ => none
  | .gr _ => none
  | .exn _ _ => none
  | .clo _ _ => none
def D.prs : List D → Option (List PyData)
  | [] => some []
  | d :: ds => match D.pr d, D.prs ds with
    | some p, some ps => some (p :: ps)
    | _, _ => none
def D.prK : List (Key × D) → Option (List (PyData × PyData))
  | [] => some []
  | (k, d) :: ds => match D.pr d, D.prK ds with
    | some p, some ps => some ((kP k, p) :: ps)
    | _, _ => none
end
/-! ### how long a text is at most -/
mutual
def pwt : PyData → Nat
  | .none => 5
  | .bool _ => 5
  | .int i => if i.natAbs < 10 ^ 12 then 13 else 2000
  | .str x => 10 * x.length + 2
  | .list xs => pwtAll xs + 3
  | .tuple xs => pwtAll xs + 3
  | .dict kvs => pwtKv kvs + 3
def pwtAll : List PyData → Nat
  | [] => 0
  | x :: xs => pwt x + 2 + pwtAll xs
def pwtKv : List (PyData × PyData) → Nat
  | [] => 0
  | (k, v) :: r => pwt k + pwt v + 4 + pwtKv r
end
mutual
def strOk : PyData → Bool
  | .none => true
  | .bool _ => true
  | .int _ => true
  | .str x => x.cps.toList.all fun c => decide (c < 16 ^ 8)
  | .list xs => strOkAll xs
  | .tuple xs => strOkAll xs
  | .dict kvs => strOkKv kvs
def strOkAll : List PyData → Bool
  | [] => true
  | x :: xs => strOk x && strOkAll xs
def strOkKv : List (PyData × PyData) → Bool
  | [] => true
  | (k, v) :: r => strOk k && strOk v && strOkKv r
end
mutual
theorem shown_pwt : ∀ d : PyData, d.showable = true → strOk d = true → d.shown.length ≤ pwt d
  | .none, _, _ => by simp only [PyData.shown, pwt]; decide
  | .bool b, _, _ => by cases b <;> (simp only [PyData.shown, pwt]; decide)
  | .int i, h, _ => by
    simp only [PyData.showable, decide_eq_true_eq] at h
    simp only [pwt]
    split
    · rename_i hi
      exact PyData.shown_int_le hi
    · simp only [PyData.shown]
      have := PyProof.Rows.int_text_len_1921 h
      omega
  | .str x, _, h => by
    simp only [strOk, List.all_eq_true, decide_eq_true_eq] at h
    simp only [PyData.shown, pwt]
    exact PySem.StrLaws.reprText_len x h
  | .list xs, h1, h2 => by
    simp only [PyData.showable, strOk] at h1 h2
    have := shownAll_pwt xs h1 h2
    have l := listText_len_le (PyData.shownAll xs)
    simp only [PyData.shown, pwt]
    omega
  | .tuple xs, h1, h2 => by
    simp only [PyData.showable, strOk] at h1 h2
    have := shownAll_pwt xs h1 h2
    have l := tupleText_len_le (PyData.shownAll xs)
    simp only [PyData.shown, pwt]
    omega
  | .dict kvs, h1, h2 => by
    simp only [PyData.showable, strOk] at h1 h2
    have := shownKv_pwt kvs h1 h2
    have l := dictText_len_le (PyData.shownKv kvs)
    simp only [PyData.shown, pwt]
    omega
theorem shownAll_pwt : ∀ xs : List PyData, PyData.showableAll xs = true → strOkAll xs = true → ((PyData.shownAll xs).map (·.length)).sum + 2 * (PyData.shownAll xs).length ≤ pwtAll xs
  | [], _, _ => by simp only [PyData.shownAll, pwtAll, List.map_nil, List.sum_nil, List.length_nil]; omega
  | x :: xs, h1, h2 => by
    simp only [PyData.showableAll, strOkAll, Bool.and_eq_true] at h1 h2
    have a := shown_pwt x h1.1 h2.1
    have b := shownAll_pwt xs h1.2 h2.2
    simp only [PyData.shownAll, pwtAll, List.map_cons, List.sum_cons, List.length_cons]
    omega
theorem shownKv_pwt : ∀ kvs : List (PyData × PyData), PyData.showableKv kvs = true → strOkKv kvs = true → ((PyData.shownKv kvs).map (·.length)).sum + 2 * (PyData.shownKv kvs).length ≤ pwtKv kvs
  | [], _, _ => by simp only [PyData.shownKv, pwtKv, List.map_nil, List.sum_nil, List.length_nil]; omega
  | (k, v) :: r, h1, h2 => by
    simp only [PyData.showableKv, strOkKv, Bool.and_eq_true] at h1 h2
    have a := shown_pwt k h1.1.1 h2.1.1
    have b := shown_pwt v h1.1.2 h2.1.2
    have c := shownKv_pwt r h1.2 h2.2
    have e : (k.shown ++ (": " : Str) ++ v.shown).length = k.shown.length + 2 + v.shown.length := by
      rw [strLen_append, strLen_append]; rfl
    simp only [PyData.shownKv, pwtKv, List.map_cons, List.sum_cons, List.length_cons, e]
    omega
end
def prOk (p : PyData) : Bool := p.showable && (strOk p && (decide (p.depth ≤ 60) && decide (pwt p ≤ 16000000)))
theorem prOk_ok {p : PyData} (h : prOk p = true) : p.showable = true ∧ p.depth ≤ 60 ∧ p.shown.length ≤ sizeLine := by
  unfold prOk at h
  simp only [Bool.and_eq_true, decide_eq_true_eq] at h
  obtain ⟨h1, h2, h3, h4⟩ := h
  refine ⟨h1, h3, ?_⟩
  have := shown_pwt p h1 h2
  rw [sizeLine_eq]
  omega
/-! ### what is read -/
theorem sys_ne {X : Cx} {pins : List (Addr × Obj)} {σ : L2.St} {H : Hp} {s : Shared} (I : Inv X pins σ H s) (B : SysB X.base) {a : Addr} {o : HO} (h : H a = some o) : a ≠ sysModules := fun z => by
  obtain ⟨ob, es, n, e, _⟩ := B
  have := (I.bs _ _ e).2
  rw [← z, h] at this
  cases this
section
variable {X : Cx} {C : Cst} {pins : List (Addr × Obj)} {σ : L2.St} {H : Hp} {s : Shared} {r : List Addr} {W : Addr → Prop}
theorem readsAll_nil {h : Heap} : ReadsAll h [] [] [] := .nil
theorem key_read {h : Heap} {k : Key} {u : Value} (hk : RelV (kV k) u) : Reads h u (kP k) [] := by
  cases k with
  | inl i => obtain ⟨t, rfl⟩ := hk; exact .int i t
  | inr x => obtain ⟨t, rfl⟩ := hk; exact .str x t
theorem prK_split : ∀ {kvs : List (Key × D)} {l : List (PyData × PyData)}, D.prK kvs = some l → D.prs (kvs.map (·.2)) = some (l.map (·.2)) ∧ l.map (·.1) = kvs.map fun kv => kP kv.1
  | [], _, e => by simp only [D.prK] at e; cases e; exact ⟨by simp only [List.map_nil, D.prs], rfl⟩
  | (k, d) :: kvs, l, e => by
    simp only [D.prK] at e
    split at e
    · rename_i p ps e1 e2
      cases e
      obtain ⟨h1, h2⟩ := prK_split e2
      exact ⟨by simp only [List.map_cons, D.prs, e1, h1], by simp only [List.map_cons, h2]⟩
    · cases e
theorem keys_read {P : Program} {w : World} {h : Heap} : ∀ {es : List DictEntry} {kvs : List (Key × Value)}, Pairs (mixKind P w) es kvs → ReadsAll h (es.map (·.key)) (kvs.map fun kv => kP kv.1) []
  | _, _, .nil => .nil
  | _, _, .cons (e := en) (kv := kv) h1 _ t => by
    have ih := keys_read (h := h) t
    have hk : Reads h en.key (kP kv.1) [] := by
      rcases keyIs_shape (show keyIs kv.1 _ = true from h1) with ⟨i, t, e1, e2⟩ | ⟨x, t, e1, e2⟩
      · rw [e1, e2]; exact .int i t
      · rw [e1, e2]; exact .str x t
    exact ReadsAll.cons hk ih
theorem pairs_vals {P : Program} {w : World} : ∀ {es : List DictEntry} {kvs : List (Key × Value)}, Pairs (mixKind P w) es kvs → es.map (·.val) = kvs.map (·.2)
  | _, _, .nil => rfl
  | _, _, .cons _ h t => by simp only [List.map_cons, h, pairs_vals t]
theorem kv_vals {κ : Type} : ∀ {xs : List (κ × V)} {us : List (κ × Value)}, KV xs us → Vals (xs.map (·.2)) (us.map (·.2)) ∧ xs.map (·.1) = us.map (·.1)
  | _, _, .nil => ⟨.nil, rfl⟩
  | _, _, .cons h t => ⟨.cons h.2 (kv_vals t).1, by simp only [List.map_cons, h.1, (kv_vals t).2]⟩
mutual
theorem Rp.reads (I : Inv X pins σ H s) (B : SysB X.base) : ∀ {d : D} {v : V} {u : Value} {p : PyData}, Rp C r W H d v → RelV v u → D.pr d = some p → ∃ as, Reads s.heap u p as ∧ sysModules ∉ as
  | _, _, _, _, .non, r1, e => by simp only [D.pr] at e; cases e; cases r1; exact ⟨_, .none, by simp⟩
  | _, _, _, _, .bl b, r1, e => by simp only [D.pr] at e; cases e; cases r1; exact ⟨_, .bool b, by simp⟩
  | _, _, _, _, .int i, r1, e => by simp only [D.pr] at e; cases e; obtain ⟨t, rfl⟩ := r1; exact ⟨_, .int i t, by simp⟩
  | _, _, _, _, .str x, r1, e => by simp only [D.pr] at e; cases e; obtain ⟨t, rfl⟩ := r1; exact ⟨_, .str x t, by simp⟩
  | _, _, _, _, .lst h hz hr hw q, r1, e => by
    simp only [D.pr, Option.map_eq_some_iff] at e
    obtain ⟨ps, e1, rfl⟩ := e
    cases r1
    obtain ⟨_, its, n, rv, ho⟩ := I.hok _ _ h
    obtain ⟨as, q1, q2⟩ := RpL.reads I B q rv e1
    exact ⟨_, .list ho rfl rfl (by simpa using q1), by simp only [List.mem_cons, not_or]; exact ⟨(sys_ne I B h).symm, q2⟩⟩
  | _, _, _, _, .tup h hz hr hw q, r1, e => by
    simp only [D.pr, Option.map_eq_some_iff] at e
    obtain ⟨ps, e1, rfl⟩ := e
    cases r1
    obtain ⟨_, its, rv, o, ho, hc, n, hd⟩ := I.hok _ _ h
    obtain ⟨as, q1, q2⟩ := RpL.reads I B q rv e1
    exact ⟨_, .tuple ho hc hd (by simpa using q1), q2⟩
  | _, _, _, _, .dK h hl hz hr hw q, r1, e => by
    simp only [D.pr, Option.map_eq_some_iff] at e
    obtain ⟨l, e1, rfl⟩ := e
    cases r1
    obtain ⟨_, hsm, us, kv, o, es, ep, ho, hx, hd, _, hp, _⟩ := dk_rd I.hok (Fz.rd h)
    obtain ⟨e2, e3⟩ := prK_split e1
    obtain ⟨k1, k2⟩ := kv_vals kv
    obtain ⟨as, q1, q2⟩ := RpL.reads I B q k1 e2
    rw [← pairs_vals hp] at q1
    have q0 := keys_read (h := s.heap) hp
    rw [show us.map (fun kv => kP kv.1) = l.map (·.1) by
      rw [e3]
      have := hl.trans k2
      have f : ∀ {α : Type} (z : List (Key × α)), z.map (fun kv => kP kv.1) = (z.map (·.1)).map kP := fun z => by simp
      rw [f, f, this]] at q0
    refine ⟨_, .dict ho hx.1 hd q0 q1, ?_⟩
    simp only [List.cons_append, List.nil_append, List.mem_cons, not_or]
    exact ⟨fun z => by rw [← z] at hsm; simp at hsm, q2⟩
  | _, _, _, _, .dT _ _ _ _ _ _, _, e => by simp only [D.pr] at e; cases e
  | _, _, _, _, .scr _ _ _ _, _, e => by simp only [D.pr] at e; cases e
  | _, _, _, _, .scrK _ _ _ _ _ _, _, e => by simp only [D.pr] at e; cases e
  | _, _, _, _, .gr _, _, e => by simp only [D.pr] at e; cases e
  | _, _, _, _, .exn0 _ _ _ _, _, e => by simp only [D.pr] at e; cases e
  | _, _, _, _, .exn _ _ _ _ _ _ _ _ _, _, e => by simp only [D.pr] at e; cases e
  | _, _, _, _, .clo _ _ _ _ _ _ _ _ _ _ _ _ _, _, e => by simp only [D.pr] at e; cases e
theorem RpL.reads (I : Inv X pins σ H s) (B : SysB X.base) : ∀ {ds : List D} {vs : List V} {us : List Value} {ps : List PyData}, RpL C r W H ds vs → Vals vs us → D.prs ds = some ps → ∃ as, ReadsAll s.heap us ps as ∧ sysModules ∉ as
  | _, _, _, _, .nil, r1, e => by simp only [D.prs] at e; cases e; cases r1; exact ⟨_, .nil, by simp⟩
  | _, _, _, _, .cons h t, r1, e => by
    cases r1 with
    | cons r1 r2 =>
      simp only [D.prs] at e
      split at e
      · rename_i p ps e1 e2
        cases e
        obtain ⟨as, a1, a2⟩ := Rp.reads I B h r1 e1
        obtain ⟨bs, b1, b2⟩ := RpL.reads I B t r2 e2
        exact ⟨_, .cons a1 b1, by simp [a2, b2]⟩
      · cases e
end
/-! ### looked at: also what still grows -/
theorem PRp.reads (I : Inv X pins σ H s) (B : SysB X.base) {d : D} {v : V} {u : Value} {p : PyData} (h : PRp C r W H d v) (r1 : RelV v u) (e : D.pr d = some p) : ∃ as, Reads s.heap u p as ∧ sysModules ∉ as := by
  cases h with
  | of h => exact h.reads I B r1 e
  | lst h hz hr q =>
    simp only [D.pr, Option.map_eq_some_iff] at e
    obtain ⟨ps, e1, rfl⟩ := e
    cases r1
    obtain ⟨_, its, n, rv, ho⟩ := I.hok _ _ h
    obtain ⟨as, q1, q2⟩ := RpL.reads I B q rv e1
    exact ⟨_, .list ho rfl rfl (by simpa using q1), by simp only [List.mem_cons, not_or]; exact ⟨(sys_ne I B h).symm, q2⟩⟩
  | dK h hl hz hr q =>
    simp only [D.pr, Option.map_eq_some_iff] at e
    obtain ⟨l, e1, rfl⟩ := e
    cases r1
    obtain ⟨_, hsm, us, kv, o, es, ep, ho, hx, hd, _, hp, _⟩ := dk_rd I.hok (.inl h)
    obtain ⟨e2, e3⟩ := prK_split e1
    obtain ⟨k1, k2⟩ := kv_vals kv
    obtain ⟨as, q1, q2⟩ := RpL.reads I B q k1 e2
    rw [← pairs_vals hp] at q1
    have q0 := keys_read (h := s.heap) hp
    rw [show us.map (fun kv => kP kv.1) = l.map (·.1) by
      rw [e3]
      have := hl.trans k2
      have f : ∀ {α : Type} (z : List (Key × α)), z.map (fun kv => kP kv.1) = (z.map (·.1)).map kP := fun z => by simp
      rw [f, f, this]] at q0
    refine ⟨_, .dict ho hx.1 hd q0 q1, ?_⟩
    simp only [List.cons_append, List.nil_append, List.mem_cons, not_or]
    exact ⟨fun z => by rw [← z] at hsm; simp at hsm, q2⟩
  | dT _ _ _ _ _ => simp only [D.pr] at e; cases e
end
def fRepr : List D → Option D
  | [d] => match d.pr with
    | some p => if prOk p then some (.str p.shown) else none
    | none => none
  | _ => none
def rRepr : List V → Hp → VK → Prop := fun xs H Q => ∃ (C : Cst) (r : List Addr) (W : Addr → Prop) (d : D) (v : V) (p : PyData), xs = [v] ∧ PRp C r W H d v ∧ D.pr d = some p ∧ prOk p = true ∧ Q (.str p.shown) H
theorem call_repr {X : Cx} {k : Nat} (B : SysB X.base) (hr : RoomG k X.A) : CallR X (.builtin "repr") rRepr := fun pins s σ H xs us Q I rv h => by
  obtain ⟨C, r, W, d, v, p, rfl, hp, e, ok, q⟩ := h
  obtain ⟨o1, o2, o3⟩ := prOk_ok ok
  cases rv with
  | cons r1 r2 =>
    cases r2
    rename_i u
    obtain ⟨as, h1, h2⟩ := hp.reads I B r1 e
    have un := hr.un
    have big : ∀ {a : Addr}, u = .ref a → wpAny (model X.prog X.w) X.A (call (.builtin "repr") [u]) (EP X pins σ Q) X.xe s := fun {a} hu => by
      subst hu
      refine repr_of_reads' h1 o1 (fun _ => h2) hr.gd (by omega) (fun _ _ z => z) (fun h' t tk kp => ?_) o3
      exact ⟨.str p.shown, H, I.kept (t' := tk) kp, ⟨t, rfl⟩, q⟩
    have small : ∀ {t : Nat} {x : Str}, x = p.shown → EP X pins σ Q (.str x t) { s with toks := s.toks + 1 } := fun {t x} hx => ⟨.str p.shown, H, I.tok _, ⟨t, by rw [hx]⟩, q⟩
    cases h1 with
    | none => exact P.repr_of_none (small (by simp only [PyData.shown]))
    | bool b => exact P.repr_of_bool (small (by simp only [PyData.shown]))
    | int i t =>
      simp only [PyData.showable, decide_eq_true_eq] at o1
      exact P.repr_of_int o1 (small (by simp only [PyData.shown]))
    | str x t =>
      simp only [PyData.shown] at o3
      exact P.repr_of_str (small (by simp only [PyData.shown])) o3
    | list => exact big rfl
    | tuple => exact big rfl
    | dict => exact big rfl
theorem cs_repr {C : Cst} : CallS C fRepr rRepr := fun Wx W g r σ H ds d xs Q e b p z => by
  unfold fRepr at e
  split at e
  · rename_i d0
    split at e
    · rename_i p0 e0
      split at e
      · rename_i ok
        cases e
        obtain ⟨v, rfl, hv⟩ := p.one
        exact ⟨C, r, W, d0, v, p0, rfl, hv, e0, ok, z.here b (.str _)⟩
      · cases e
    · cases e
  · cases e
/-! ### repr(x) == repr(y): the things first -/
mutual
def D.same : D → D → Bool
  | .non, .non => true
  | .bl a, .bl b => a == b
  | .int a, .int b => decide (a = b)
  | .str a, .str b => a == b
  | .lst a, .lst b => D.sames a b
  | .tup a, .tup b => D.sames a b
  | .dK a, .dK b => D.sameK a b
  | _, _ => false
def D.sames : List D → List D → Bool
  | [], [] => true
  | a :: as, b :: bs => D.same a b && D.sames as bs
  | _, _ => false
def D.sameK : List (Key × D) → List (Key × D) → Bool
  | [], [] => true
  | (k, a) :: as, (l, b) :: bs => decide (k = l) && (D.same a b && D.sameK as bs)
  | _, _ => false
end
mutual
theorem same_eq : ∀ {a b : D}, D.same a b = true → a = b
  | .non, .non, _ => rfl
  | .bl a, .bl b, h => by simp only [D.same] at h; rw [eq_of_beq h]
  | .int a, .int b, h => by simp only [D.same, decide_eq_true_eq] at h; rw [h]
  | .str a, .str b, h => by simp only [D.same] at h; rw [eq_of_beq h]
  | .lst a, .lst b, h => by simp only [D.same] at h; rw [sames_eq h]
  | .tup a, .tup b, h => by simp only [D.same] at h; rw [sames_eq h]
  | .dK a, .dK b, h => by simp only [D.same] at h; rw [sameK_eq h]
theorem sames_eq : ∀ {a b : List D}, D.sames a b = true → a = b
  | [], [], _ => rfl
  | a :: as, b :: bs, h => by
    simp only [D.sames, Bool.and_eq_true] at h
    rw [same_eq h.1, sames_eq h.2]
theorem sameK_eq : ∀ {a b : List (Key × D)}, D.sameK a b = true → a = b
  | [], [], _ => rfl
  | (k, a) :: as, (l, b) :: bs, h => by
    simp only [D.sameK, Bool.and_eq_true, decide_eq_true_eq] at h
    rw [h.1, same_eq h.2.1, sameK_eq h.2.2]
end
def fSEq (ne : Bool) (a b : D) : Option D := match a, b with
  | .str x, .str y => some (.bl (ne != (x == y)))
  | _, _ => none
def mReprCmp (ne : Bool) (ma mb : ME) : ME := fun env g => (ma env g).bind fun a g1 => match a.pr with
  | none => .stuck
  | some p => if prOk p then (mb env g1).bind fun b g2 => match b.pr with
    | none => .stuck
    | some q => if prOk q then .ok (.bl (ne != (D.same a b || p.shown == q.shown))) g2 else .stuck
    else .stuck
theorem mReprCmp_eq (ne : Bool) (ma mb : ME) (env : Ev) (g : G) : mReprCmp ne ma mb env g = mBin (fSEq ne) (mBlt fRepr (mCons ma mNil)) (mBlt fRepr (mCons mb mNil)) env g := by
  unfold mReprCmp mBin mBlt mCons mNil
  cases ma env g with
  | stuck => rfl
  | exc c fs g1 => rfl
  | ok a g1 =>
    simp only [R.bind, fRepr]
    cases ea : a.pr with
    | none => rfl
    | some p =>
      simp only
      cases ha : prOk p with
      | false => rfl
      | true =>
        simp only [if_true, liftO]
        cases mb env g1 with
        | stuck => rfl
        | exc c fs g2 => rfl
        | ok b g2 =>
          simp only
          cases eb : b.pr with
          | none => rfl
          | some q =>
            simp only
            cases hb : prOk q with
            | false => rfl
            | true =>
              simp only [if_true, fSEq]
              cases hs : D.same a b with
              | false => simp
              | true =>
                have := same_eq hs
                subst this
                rw [ea] at eb
                cases eb
                simp
section
variable {X : Cx} {C : Cst} {Wx : WX}
theorem dec_str (x y : Str) : decide (V.str x = V.str y) = (x == y) := by
  rw [Bool.eq_iff_iff]
  simp
theorem os_seq : OpB C (fSEq false) rEq := fun W g r H da db d x y Q e b p1 p2 => by
  unfold fSEq at e
  split at e
  · rename_i u v
    cases e
    refine ⟨_, rfl, fun z => ?_⟩
    rw [p1.isStr, p2.isStr]
    refine ⟨rfl, ?_⟩
    rw [dec_str]
    simpa using z
  · cases e
theorem os_sne : OpB C (fSEq true) rNe := fun W g r H da db d x y Q e b p1 p2 => by
  unfold fSEq at e
  split at e
  · rename_i u v
    cases e
    refine ⟨_, rfl, fun z => ?_⟩
    rw [p1.isStr, p2.isStr]
    refine ⟨rfl, ?_⟩
    rw [dec_str]
    simpa using z
  · cases e
theorem re_reprCmp {ne : Bool} {ma mb : ME} {σ : L2.St} {H : Hp} {Q : VK} (h : RE C Wx (mReprCmp ne ma mb) σ H Q) : RE C Wx (mBin (fSEq ne) (mBlt fRepr (mCons ma mNil)) (mBlt fRepr (mCons mb mNil))) σ H Q := by
  obtain ⟨W, env, oas, g, r, S, P⟩ := h
  rw [mReprCmp_eq] at P
  exact ⟨W, env, oas, g, r, S, P⟩
/-- repr(x) == repr(y) -/
theorem se_reprEq {a b : Expr} {p1 p2 p3 p4 pos : Pos} {ma mb : ME} {k : Nat} (B : SysB X.base) (hr : RoomG k X.A) (hg : Gl X "repr") (hm : X.mg "repr" = none) (ha : PE X a (RP C Wx ma)) (hb : PE X b (RP C Wx mb))
    (h1 : starEach [a] X.env = (false, eval a X.env) :: starEach [] X.env := by rfl) (h2 : starEach [b] X.env = (false, eval b X.env) :: starEach [] X.env := by rfl) :
    PE X (.Compare (.Call (.Name "repr" p1) [a] [] p2) [.Eq] [.Call (.Name "repr" p3) [b] [] p4] pos) (RE C Wx (mReprCmp false ma mb)) :=
  PEm (se_cmp op_eq os_seq.s (sp_of (se_blt (call_repr B hr) cs_repr hg hm (by decide +kernel) (pa_consP ha pa_nilP (hs := h1)) (he := h1) (hpl := rfl))) (sp_of (se_blt (call_repr B hr) cs_repr hg hm (by decide +kernel) (pa_consP hb pa_nilP (hs := h2)) (he := h2) (hpl := rfl)))) fun _ _ _ h => re_reprCmp h
theorem se_reprNe {a b : Expr} {p1 p2 p3 p4 pos : Pos} {ma mb : ME} {k : Nat} (B : SysB X.base) (hr : RoomG k X.A) (hg : Gl X "repr") (hm : X.mg "repr" = none) (ha : PE X a (RP C Wx ma)) (hb : PE X b (RP C Wx mb))
    (h1 : starEach [a] X.env = (false, eval a X.env) :: starEach [] X.env := by rfl) (h2 : starEach [b] X.env = (false, eval b X.env) :: starEach [] X.env := by rfl) :
    PE X (.Compare (.Call (.Name "repr" p1) [a] [] p2) [.NotEq] [.Call (.Name "repr" p3) [b] [] p4] pos) (RE C Wx (mReprCmp true ma mb)) :=
  PEm (se_cmp op_ne os_sne.s (sp_of (se_blt (call_repr B hr) cs_repr hg hm (by decide +kernel) (pa_consP ha pa_nilP (hs := h1)) (he := h1) (hpl := rfl))) (sp_of (se_blt (call_repr B hr) cs_repr hg hm (by decide +kernel) (pa_consP hb pa_nilP (hs := h2)) (he := h2) (hpl := rfl)))) fun _ _ _ h => re_reprCmp h
end
end GT

/-! GtZs: odds and ends: tuple(range(n)), tests of texts, is of truths, frames. -/
namespace GT
open PySem PySem.Spec PyProof.Rows L2 RZ

section
variable {X : Cx} {C : Cst} {Wx : WX}
theorem se_tupRg1 {a : Expr} {m : ME} {p p2 pos pos2 : Pos} (hc : X.calm = true) (hgl : Gl X "tuple") (hml : X.mg "tuple" = none) (hg : Gl X "range") (hm : X.mg "range" = none) (ha : PE X a (RE C Wx m)) (na : starEach [a] X.env = (false, eval a X.env) :: starEach [] X.env := by rfl)
    (nb : starEach [.Call (.Name "range" p) [a] [] pos] X.env = (false, eval (.Call (.Name "range" p) [a] [] pos) X.env) :: starEach [] X.env := by rfl) : PE X (.Call (.Name "tuple" p2) [.Call (.Name "range" p) [a] [] pos] [] pos2) (RE C Wx (mTupI (mRg1 m))) :=
  PEm (pe_tupRg hc hgl hml (prg_1 hg hm ha na) nb) fun σ H Q h => by
    obtain ⟨W, env, oas, g, r, S, P⟩ := h
    refine ⟨W, env, oas, g, r, S, Post.mono (Post.split (show Post C Wx W r σ H (RlE C W) Q ((m env g).bind fun d g1 => ((match d with | .int b => if rgOk 0 b then R.ok (rgD 0 b) g1 else R.stuck | _ => R.stuck) : R (List D)).bind fun ds g1 => .ok (.tup ds) g1) from ?_)) fun v H1 ⟨d, g1, r1, b1, s1, p1, q1⟩ => ?_⟩
    · unfold mTupI mRg1 at P
      rw [R.bind_assoc] at P
      exact P
    · cases d with
      | int b =>
        dsimp only at q1
        split at q1
        · rename_i hk
          obtain ⟨h1, h2, h3, h4, h5⟩ := rgOk_ok hk
          refine ⟨b, p1.isInt, ⟨by omega, by omega, by omega, by omega, by omega⟩, fun q hq => q1 _ _ r1 (b1.upd hq) (Step.upd hq) (Rp.newT b1 hq ?_ (rgD_rp 0 b))⟩
          rw [rgV_length]; exact mil h5
        · exact q1.elim
      | _ => exact q1.elim
/-! ### tests by the texts of things -/
theorem rt_reprCmp {ne : Bool} {ma mb : ME} {σ : L2.St} {H : Hp} {Q : Bool → Hp → Prop} (h : RT C Wx (mTst (mReprCmp ne ma mb)) σ H Q) : RT C Wx (mTst (mBin (fSEq ne) (mBlt fRepr (mCons ma mNil)) (mBlt fRepr (mCons mb mNil)))) σ H Q := by
  obtain ⟨W, env, oas, g, r, S, P⟩ := h
  unfold mTst at P ⊢
  rw [mReprCmp_eq] at P
  exact ⟨W, env, oas, g, r, S, P⟩
theorem st_reprEq {a b : Expr} {p1 p2 p3 p4 pos : Pos} {ma mb : ME} {k : Nat} (B : SysB X.base) (hr : RoomG k X.A) (hg : Gl X "repr") (hm : X.mg "repr" = none) (ha : PE X a (RP C Wx ma)) (hb : PE X b (RP C Wx mb))
    (h1 : starEach [a] X.env = (false, eval a X.env) :: starEach [] X.env := by rfl) (h2 : starEach [b] X.env = (false, eval b X.env) :: starEach [] X.env := by rfl) :
    PT X (.Compare (.Call (.Name "repr" p1) [a] [] p2) [.Eq] [.Call (.Name "repr" p3) [b] [] p4] pos) (RT C Wx (mTst (mReprCmp false ma mb))) :=
  PTm (st_cmp op_eq os_seq.s (sp_of (se_blt (call_repr B hr) cs_repr hg hm (by decide +kernel) (pa_consP ha pa_nilP (hs := h1)) (he := h1) (hpl := rfl))) (sp_of (se_blt (call_repr B hr) cs_repr hg hm (by decide +kernel) (pa_consP hb pa_nilP (hs := h2)) (he := h2) (hpl := rfl)))) fun _ _ _ h => rt_reprCmp h
theorem st_reprNe {a b : Expr} {p1 p2 p3 p4 pos : Pos} {ma mb : ME} {k : Nat} (B : SysB X.base) (hr : RoomG k X.A) (hg : Gl X "repr") (hm : X.mg "repr" = none) (ha : PE X a (RP C Wx ma)) (hb : PE X b (RP C Wx mb))
    (h1 : starEach [a] X.env = (false, eval a X.env) :: starEach [] X.env := by rfl) (h2 : starEach [b] X.env = (false, eval b X.env) :: starEach [] X.env := by rfl) :
    PT X (.Compare (.Call (.Name "repr" p1) [a] [] p2) [.NotEq] [.Call (.Name "repr" p3) [b] [] p4] pos) (RT C Wx (mTst (mReprCmp true ma mb))) :=
  PTm (st_cmp op_ne os_sne.s (sp_of (se_blt (call_repr B hr) cs_repr hg hm (by decide +kernel) (pa_consP ha pa_nilP (hs := h1)) (he := h1) (hpl := rfl))) (sp_of (se_blt (call_repr B hr) cs_repr hg hm (by decide +kernel) (pa_consP hb pa_nilP (hs := h2)) (he := h2) (hpl := rfl)))) fun _ _ _ h => rt_reprCmp h
end
/-! ### is True, is False -/
def fIsB (a b : D) : Option D := match a, b with
  | .bl x, .bl y => some (.bl (decide (x = y)))
  | _, _ => none
def fIsNB (a b : D) : Option D := match a, b with
  | .bl x, .bl y => some (.bl (!decide (x = y)))
  | _, _ => none
section
variable {C : Cst}
theorem os_isB : OpB C fIsB rIsB := fun W g r H da db d x y Q e b p1 p2 => by
  unfold fIsB at e
  split at e
  · cases e
    exact ⟨_, rfl, fun z => ⟨_, _, p1.isBl, p2.isBl, z⟩⟩
  · cases e
theorem os_isNB : OpB C fIsNB rNotB := fun W g r H da db d x y Q e b p1 p2 => by
  unfold fIsNB at e
  split at e
  · cases e
    exact ⟨_, rfl, fun z => ⟨_, _, p1.isBl, p2.isBl, z⟩⟩
  · cases e
end
/-- the __init__ of a class of the text -/
def initOf : Stmt → Stmt
  | .ClassDef _ _ _ b _ _ _ _ _ _ _ => (b.find? fun s => match s with
    | .FunctionDef n _ _ _ _ _ _ _ _ _ => n == ("__init__" : Str)
    | _ => false).getD (.Pass ⟨0, 0, 0, 0⟩)
  | s => s
/-! ### frames -/
theorem fr_raise0 {c : Str} : FrE (mRaise0 c) := fun _ _ => rfl
theorem fr_raise {c : Str} {fs : List Str} {ms : MA} (h : FrE ms) : FrE (mRaise c fs ms) := fun env => Fr.bind (h env) fun ds => Fr.ite (fun g => rfl) Fr.st
theorem fr_tryS {m : ME} {hs : List (Str × Str × List Str)} (h : FrE m) : FrE (mTryS m hs) := fun env g => by
  unfold mTryS
  rw [h env g]
  cases m env [] with
  | stuck => rfl
  | ok d g1 => rfl
  | exc c fs g1 =>
    simp only [R.at]
    cases hs.find? (fun q => q.1 == c) with
    | none => rfl
    | some q =>
      simp only
      cases lookAll fs q.2.2 with
      | none => rfl
      | some ds =>
        simp only
        split <;> rfl
theorem fr_reprCmp {ne : Bool} {ma mb : ME} (ha : FrE ma) (hb : FrE mb) : FrE (mReprCmp ne ma mb) := fun env => Fr.bind (ha env) fun a => by
  cases a.pr with
  | none => exact Fr.st
  | some p => exact Fr.ite (Fr.bind (hb env) fun b => by
      cases b.pr with
      | none => exact Fr.st
      | some q => exact Fr.ite Fr.ok Fr.st) Fr.st
end GT

/-! GtUb: the draws of the later laws. -/
namespace GT
open PySem PySem.Spec PyProof.Rows L2 RZ

/-! ### // by a great number -/
def fDivW (a b : D) : Option D := match a, b with
  | .int i, .int j => if 0 < j ∧ j < 2 ^ 64 then some (.int (i / j)) else none
  | _, _ => none
theorem os_divW {C : Cst} : OpS C fDivW (rI CDivW fun i j => .int (i / j)) := fun Wx W g r σ H da db d x y Q e b p1 p2 P => by
  unfold fDivW at e
  split at e
  · rename_i i j
    split at e
    · rename_i h
      cases e
      exact ⟨i, j, p1.isInt, p2.isInt, wide_div (b := 64) h.1 (by omega) (by decide) (by decide), P.here b (.int _)⟩
    · cases e
  · cases e
theorem fDivW_p {i j : Int} (h : 0 < j) (h2 : j < 2 ^ 64) : fDivW (.int i) (.int j) = some (.int (i / j)) := by
  show (if 0 < j ∧ j < 2 ^ 64 then _ else _) = _
  rw [if_pos ⟨h, h2⟩]
def gT (gs : List Int) (s : Int) : GO := .dct [(.inr "great", .lst (gs.map .int)), (.inr "seed", .int s)]
def seedT (s : Int) : List Int → Int
  | [] => s
  | n :: ns => seedT ((s * 6364136223846793005 + n + 1442695040888963407) % 18446744073709551616) ns
theorem at_greatT {g : G} {n : Nat} {gs : List Int} {s : Int} (h : g[n]? = some (gT gs s)) : gAt g (.gr n) (.inr "great") = some (.lst (gs.map .int)) := by
  simp only [gAt, h, gT]; rfl
theorem at_seedT {g : G} {n : Nat} {gs : List Int} {s : Int} (h : g[n]? = some (gT gs s)) : gAt g (.gr n) (.inr "seed") = some (.int s) := by
  simp only [gAt, h, gT]; rfl
theorem put_greatT {g : G} {n : Nat} {gs gs' : List Int} {s : Int} (h : g[n]? = some (gT gs s)) : gPut g (.gr n) (.inr "great") (.lst (gs'.map .int)) = some (g.set n (gT gs' s)) := by
  simp only [gPut, h, gT, D.nc, ncs_ints]; rfl
theorem put_seedT {g : G} {n : Nat} {gs : List Int} {s s' : Int} (h : g[n]? = some (gT gs s)) : gPut g (.gr n) (.inr "seed") (.int s') = some (g.set n (gT gs s')) := by
  simp only [gPut, h, gT, D.nc]; rfl
abbrev dGrT : MS := mSeq (mAsg (mBin fIx dGreat (mC (.int 0))) (bName 2)) (mSeq (mGPut 0 (.inr "great") (mBin fAdd (mNew (mItems (mCons (mBin fDiv (mPk 2) (mPk 1)) (mNil)))) (mSl dGreat (mPart (mC (.int 1))) (mNo)))) (mRet (mBin fMod (mBlt fInt1 (mCons (mPk 2) (mNil))) (mPk 1))))
abbrev dSeed : ME := mGet (mVar 0) (.inr "seed")
abbrev dEndT : MS := mSeq (mGPut 0 (.inr "seed") (mBin fMod (mBlt fInt1 (mCons (mBin fAdd (mBin fMul dSeed (mC (.int 6364136223846793005))) (mC (.int 1442695040888963407))) (mNil))) (mC (.int 18446744073709551616)))) (mRet (mBin fMod (mBlt fInt1 (mCons (mBin fDivW dSeed (mC (.int 8589934592))) (mNil))) (mPk 1)))
def mDrawT : List D → G → R D := mDef 3 (mSeq (mWhile 70 dT dB) (mSeq (mIfS (mTst (mBin fNe dGreat (mNew (mItems (mNil))))) dGrT (mSkip)) dEndT))
section
variable {g : G} {n : Nat} {gs : List Int} {s lim : Int} {x : Slot}
abbrev dF (n : Nat) (lim : Int) (x : Slot) : Ev := [.val (.gr n), .val (.int lim), x]
theorem ew_great (h : g[n]? = some (gT gs s)) : dGreat (dF n lim x) g = .ok (.lst (gs.map .int)) g := by
  show (liftO (gAt g (.gr n) (.inr "great")) g) = _
  rw [at_greatT h]; rfl
theorem ew_ne (h : g[n]? = some (gT gs s)) : (mTst (mBin fNe dGreat (mNew (mItems (mNil))))) (dF n lim x) g = .ok (!gs.isEmpty) g := by
  show R.bind (R.bind (dGreat (dF n lim x) g) _) _ = _
  rw [ew_great h]
  show R.bind (liftO (fNe (.lst (gs.map .int)) (.lst [])) g) _ = _
  rw [fNe_nil]; rfl
theorem ew_first {a : Int} (h : g[n]? = some (gT (a :: gs) s)) : (mBin fIx dGreat (mC (.int 0))) (dF n lim x) g = .ok (.int a) g := by
  show R.bind (dGreat (dF n lim x) g) _ = _
  rw [ew_great h]
  show liftO (atI (D.int a :: gs.map D.int) 0) g = _
  rw [atI_0]; rfl
theorem ew_t0 (h : g[n]? = some (gT [] s)) : dT (dF n lim x) g = .ok false g := by
  show R.bind ((mTst (mBin fNe dGreat (mNew (mItems (mNil))))) (dF n lim x) g) _ = _
  rw [ew_ne h]; rfl
theorem ew_t1 {a : Int} (h : g[n]? = some (gT (a :: gs) s)) : dT (dF n lim x) g = .ok (a == 0) g := by
  show R.bind ((mTst (mBin fNe dGreat (mNew (mItems (mNil))))) (dF n lim x) g) _ = _
  rw [ew_ne h]
  show R.bind (R.bind ((mBin fIx dGreat (mC (.int 0))) (dF n lim x) g) _) _ = _
  rw [ew_first h]; rfl
theorem ew_rest (h : g[n]? = some (gT gs s)) : (mSl dGreat (mPart (mC (.int 1))) (mNo)) (dF n lim x) g = .ok (.lst ((gs.drop 1).map .int)) g := by
  show R.bind (dGreat (dF n lim x) g) _ = _
  rw [ew_great h]
  show liftO (some (D.lst (cutD (gs.map D.int) (some 1) none))) g = _
  rw [cut1]; rfl
theorem ew_b (h : g[n]? = some (gT gs s)) : dB (dF n lim x) g = .ok (.nx, dF n lim x) (g.set n (gT (gs.drop 1) s)) := by
  show R.bind ((mSl dGreat (mPart (mC (.int 1))) (mNo)) (dF n lim x) g) (fun v g1 => match gPut g1 (.gr n) (.inr "great") v with
    | some g2 => R.ok (Fl.nx, dF n lim x) g2
    | none => .stuck) = _
  rw [ew_rest h]
  show (match gPut g (.gr n) (.inr "great") (.lst ((gs.drop 1).map .int)) with
    | some g2 => R.ok (Fl.nx, dF n lim x) g2
    | none => .stuck) = _
  rw [put_greatT h]
theorem ew_while : ∀ (gs : List Int) (m : Nat) (g : G), gs.length < m → g[n]? = some (gT gs s) → whileL dT dB m (dF n lim x) g = .ok (.nx, dF n lim x) (g.set n (gT (gs.dropWhile (· == 0)) s))
  | [], m + 1, g, _, h => by
    rw [whileL, ew_t0 h]
    show R.ok _ g = _
    rw [List.dropWhile_nil, set_same h]
  | a :: gs, m + 1, g, hl, h => by
    rw [whileL, ew_t1 h]
    by_cases e : (a == 0) = true
    · show R.bind (.ok (a == 0) g) _ = _
      rw [e]
      show R.bind (dB (dF n lim x) g) _ = _
      rw [ew_b h]
      show whileL dT dB m (dF n lim x) (g.set n (gT gs s)) = _
      rw [ew_while gs m _ (by simp only [List.length_cons] at hl; omega) (get_set h), List.set_set, List.dropWhile_cons, if_pos e]
    · have e' : (a == 0) = false := by simpa using e
      rw [e', List.dropWhile_cons, if_neg (by rw [e']; exact Bool.false_ne_true), set_same h]
      rfl
theorem ew_gr {a : Int} (h : g[n]? = some (gT (a :: gs) s)) (hg : gs.length ≤ 1000) (hl : 0 < lim) (hl2 : lim < 1073741824) : ∃ r env, dGrT (dF n lim x) g = .ok (.rt (.int r), env) (g.set n (gT (a / lim :: gs) s)) ∧ 0 ≤ r ∧ r < lim := by
  have e0 : (dF n lim (.val (.int a)))[0]? = some (.val (.gr n)) := rfl
  have A1 : mAsg (mBin fIx dGreat (mC (.int 0))) (bName 2) (dF n lim x) g = .ok (.nx, dF n lim (.val (.int a))) g := ev_asg (ew_first h)
  have q : (mNew (mItems (mCons (mBin fDiv (mPk 2) (mPk 1)) (mNil)))) (dF n lim (.val (.int a))) g = .ok (.lst [.int (a / lim)]) g := by
    have z : mBin fDiv (mPk 2) (mPk 1) (dF n lim (.val (.int a))) g = .ok (.int (a / lim)) g := ev_bin (show mPk 2 _ g = .ok (.int a) g from rfl) (show mPk 1 _ g = .ok (.int lim) g from rfl) (fDiv_p hl hl2)
    unfold mNew mItems mCons
    rw [z]; rfl
  have A2 : mGPut 0 (.inr "great") (mBin fAdd (mNew (mItems (mCons (mBin fDiv (mPk 2) (mPk 1)) (mNil)))) (mSl dGreat (mPart (mC (.int 1))) (mNo))) (dF n lim (.val (.int a))) g = .ok (.nx, dF n lim (.val (.int a))) (g.set n (gT (a / lim :: gs) s)) :=
    ev_gput e0 (ev_bin q (ew_rest h) (fAdd_lst (by simp; omega))) (put_greatT (gs' := a / lim :: gs) h)
  refine ⟨_, _, (ev_seq A1).trans ((ev_seq A2).trans (ev_ret (ev_bin (ev_int1 (show mPk 2 (dF n lim (.val (.int a))) (g.set n (gT (a / lim :: gs) s)) = .ok (.int a) _ from rfl)) (show mPk 1 _ _ = .ok (.int lim) _ from rfl) (fMod_p hl)))), Int.emod_nonneg _ (Int.ne_of_gt hl), Int.emod_lt_of_pos _ hl⟩
theorem ew_end (h : g[n]? = some (gT gs s)) (hl : 0 < lim) : ∃ r s' env, dEndT (dF n lim x) g = .ok (.rt (.int r), env) (g.set n (gT gs s')) ∧ 0 ≤ r ∧ r < lim := by
  have e0 : (dF n lim x)[0]? = some (.val (.gr n)) := rfl
  obtain ⟨a, ea⟩ : ∃ a, a = (s * 6364136223846793005 + 1442695040888963407) % 18446744073709551616 := ⟨_, rfl⟩
  have h1 : (g.set n (gT gs a))[n]? = some (gT gs a) := get_set h
  have A1 : mGPut 0 (.inr "seed") (mBin fMod (mBlt fInt1 (mCons (mBin fAdd (mBin fMul dSeed (mC (.int 6364136223846793005))) (mC (.int 1442695040888963407))) (mNil))) (mC (.int 18446744073709551616))) (dF n lim x) g = .ok (.nx, dF n lim x) (g.set n (gT gs a)) := by
    rw [ea]
    exact ev_gput e0 (ev_bin (ev_int1 (ev_bin (ev_bin (ev_get e0 (at_seedT h)) rfl (fMul_r (by omega))) rfl rfl)) rfl (fMod_p (by omega))) (put_seedT h)
  have A2 := ev_ret (ev_bin (ev_int1 (ev_bin (ev_get e0 (at_seedT h1)) (show mC (.int 8589934592) _ _ = .ok (.int 8589934592) _ from rfl) (fDivW_p (by omega) (by omega)))) (show mPk 1 (dF n lim x) (g.set n (gT gs a)) = .ok (.int lim) _ from rfl) (fMod_p hl))
  exact ⟨_, a, dF n lim x, (ev_seq A1).trans A2, Int.emod_nonneg _ (Int.ne_of_gt hl), Int.emod_lt_of_pos _ hl⟩
/-- a draw below lim -/
theorem drawT_ok (h : g[n]? = some (gT gs s)) (hg : gs.length ≤ 69) (hl : 0 < lim) (hl2 : lim < 1073741824) :
    ∃ r gs' s', mDrawT [.gr n, .int lim] g = .ok (.int r) (g.set n (gT gs' s')) ∧ 0 ≤ r ∧ r < lim ∧ gs'.length ≤ gs.length := by
  have hw := ew_while (n := n) (s := s) (lim := lim) (x := .no) gs 70 g (by omega) h
  obtain ⟨gs1, e1⟩ : ∃ gs1, gs1 = gs.dropWhile (· == 0) := ⟨_, rfl⟩
  have l1 : gs1.length ≤ gs.length := by rw [e1]; exact (List.dropWhile_sublist _).length_le
  rw [← e1] at hw
  have h1 : (g.set n (gT gs1 s))[n]? = some (gT gs1 s) := get_set h
  have go : ∀ {r : Int} {env : Ev} {g1 : G}, mSeq (mWhile 70 dT dB) (mSeq (mIfS (mTst (mBin fNe dGreat (mNew (mItems (mNil))))) dGrT (mSkip)) dEndT) (dF n lim .no) g = .ok (.rt (.int r), env) g1 → mDrawT [.gr n, .int lim] g = .ok (.int r) g1 := fun z => ev_def z
  cases gs1 with
  | nil =>
    have A : mIfS (mTst (mBin fNe dGreat (mNew (mItems (mNil))))) dGrT (mSkip) (dF n lim .no) (g.set n (gT [] s)) = .ok (.nx, dF n lim .no) (g.set n (gT [] s)) := by
      unfold mIfS
      rw [ew_ne h1]; rfl
    obtain ⟨r, s', env, e2, r1, r2⟩ := ew_end (x := .no) h1 hl
    rw [List.set_set] at e2
    exact ⟨r, [], s', go ((ev_seq hw).trans ((ev_seq A).trans e2)), r1, r2, by simp⟩
  | cons a gs2 =>
    obtain ⟨r, env, e2, r1, r2⟩ := ew_gr (x := .no) h1 (by simp only [List.length_cons] at l1; omega) hl hl2
    have A : mIfS (mTst (mBin fNe dGreat (mNew (mItems (mNil))))) dGrT (mSkip) (dF n lim .no) (g.set n (gT (a :: gs2) s)) = .ok (.rt (.int r), env) ((g.set n (gT (a :: gs2) s)).set n (gT (a / lim :: gs2) s)) := by
      unfold mIfS
      rw [ew_ne h1]
      exact e2
    rw [List.set_set] at A
    exact ⟨r, a / lim :: gs2, s, go ((ev_seq hw).trans (ev_seqR A)), r1, r2, l1⟩
end
/-! ### the beginning -/
abbrev bBodyT : MS := mAsg (mBin fMod (mBlt fInt1 (mCons (mBin fAdd (mBin fAdd (mBin fMul (mPk 1) (mC (.int 6364136223846793005))) (mPk 2)) (mC (.int 1442695040888963407))) (mNil))) (mC (.int 18446744073709551616))) (bName 1)
def mBegunT : List D → G → R D := mDef 3 (mSeq (mAsg (mC (.int 20231)) (bName 1)) (mSeq (mFor (mItL (mVar 0)) (bName 2) bBodyT) (mRet (mDisp [(.inr "great", mNew (mComp [2] (mItL (mVar 0)) (bName 2) bT (mVar 2))), (.inr "seed", mVar 1)]))))
theorem ew_begun {S : List Int} {g : G} : ∀ (ns : List Int) (s : Int) (x : Slot), ∃ y, forL (bName 2) bBodyT (ns.map .int) [.val (.scr S), .val (.int s), x] g = .ok (.nx, [.val (.scr S), .val (.int (seedT s ns)), y]) g
  | [], s, x => ⟨x, rfl⟩
  | n :: ns, s, x => by
    obtain ⟨y, e⟩ := ew_begun (S := S) (g := g) ns ((s * 6364136223846793005 + n + 1442695040888963407) % 18446744073709551616) (.val (.int n))
    refine ⟨y, ?_⟩
    have A : bBodyT [.val (.scr S), .val (.int s), .val (.int n)] g = .ok (.nx, [.val (.scr S), .val (.int ((s * 6364136223846793005 + n + 1442695040888963407) % 18446744073709551616)), .val (.int n)]) g :=
      ev_asg (ev_bin (ev_int1 (ev_bin (ev_bin (ev_bin (show mPk 1 _ g = .ok (.int s) g from rfl) (show mC (.int 6364136223846793005) _ g = .ok (.int 6364136223846793005) g from rfl) (fMul_r (by omega))) (show mPk 2 _ g = .ok (.int n) g from rfl) rfl) rfl rfl)) rfl (fMod_p (by omega)))
    show R.bind (bBodyT [.val (.scr S), .val (.int s), .val (.int n)] g) _ = _
    rw [A]
    exact e
theorem begunT_ok (ns : List Int) (g : G) : mBegunT [.scr ns] g = .ok (.gr g.length) (g ++ [gT (ns.filter fun n => decide (10 ^ 18 ≤ n)) (seedT 20231 ns)]) := by
  obtain ⟨y, e⟩ := ew_begun (S := ns) (g := g) ns 20231 .no
  have A1 : mAsg (mC (.int 20231)) (bName 1) [.val (.scr ns), .no, .no] g = .ok (.nx, [.val (.scr ns), .val (.int 20231), .no]) g := rfl
  have A2 : mFor (mItL (mVar 0)) (bName 2) bBodyT [.val (.scr ns), .val (.int 20231), .no] g = .ok (.nx, [.val (.scr ns), .val (.int (seedT 20231 ns)), y]) g := e
  have A3 : mNew (mComp [2] (mItL (mVar 0)) (bName 2) bT (mVar 2)) [.val (.scr ns), .val (.int (seedT 20231 ns)), y] g = .ok (.lst ((ns.filter fun n => decide (10 ^ 18 ≤ n)).map .int)) g := by
    show R.bind (compL (bName 2) bT (mVar 2) [.val (.scr ns), .val (.int (seedT 20231 ns)), .no] (ns.map .int) g) _ = _
    rw [ev_great0]; rfl
  have A4 : mDisp [(.inr "great", mNew (mComp [2] (mItL (mVar 0)) (bName 2) bT (mVar 2))), (.inr "seed", mVar 1)] [.val (.scr ns), .val (.int (seedT 20231 ns)), y] g = .ok (.gr g.length) (g ++ [gT (ns.filter fun n => decide (10 ^ 18 ≤ n)) (seedT 20231 ns)]) := by
    unfold mDisp
    rw [dispL, A3]
    show (if _ ∧ D.ncs [D.lst ((ns.filter fun n => decide (10 ^ 18 ≤ n)).map .int), .int (seedT 20231 ns)] = true then _ else _) = _
    rw [if_pos]
    · rfl
    · refine ⟨by simp, ?_⟩
      simp only [D.ncs, D.nc, ncs_ints, Bool.and_self]
  exact ev_def ((ev_seq A1).trans ((ev_seq A2).trans (ev_ret A4)))
end GT

/-! GtVb: laws by hand: one of some things is drawn, some turns, then all is computed. -/
namespace GT
open PySem PySem.Spec PyProof.Rows L2 RZ

/-- the drawing object alone -/
def StT (g : G) : Prop := ∃ gs s, g = [gT gs s] ∧ gs.length ≤ 69
def mOfT : List D → G → R D := mDef 2 (mRet (mBin fIx (mPk 1) (mFn 2 mDrawT (mCons (mVar 0) (mCons (mBlt fLen (mCons (mPk 1) (mNil))) (mNil))))))
theorem atI_nat' {α : Type} {l : List α} {r : Int} (h0 : 0 ≤ r) (h1 : r < l.length) : ∃ a, l[r.toNat]? = some a ∧ atI l r = some a := by
  have hlt : r.toNat < l.length := by omega
  refine ⟨l[r.toNat], by rw [List.getElem?_eq_getElem hlt], ?_⟩
  have e := atI_nat (j := r.toNat) (by rw [List.getElem?_eq_getElem hlt])
  rw [Int.toNat_of_nonneg h0] at e
  exact e
/-- one of some things -/
theorem ofT_ok {g : G} {ds : List D} (S : StT g) (h : ds ≠ []) (hl : ds.length ≤ 1000) : ∃ d g', d ∈ ds ∧ StT g' ∧ mOfT [.gr 0, .lst ds] g = .ok d g' := by
  obtain ⟨gs, s, rfl, hg⟩ := S
  have hpos : 0 < (ds.length : Int) := by
    have : 0 < ds.length := List.length_pos_iff.mpr h
    omega
  obtain ⟨r, gs', s', e, r0, r1, l1⟩ := drawT_ok (n := 0) (g := [gT gs s]) (gs := gs) (s := s) (lim := ds.length) rfl hg hpos (by omega)
  obtain ⟨a, ha, hat⟩ := atI_nat' (l := ds) r0 r1
  refine ⟨a, [gT gs' s'], List.mem_of_getElem? ha, ⟨gs', s', rfl, by omega⟩, ?_⟩
  refine ev_def (ev_ret (ev_bin (show mPk 1 (ev0 2 [.gr 0, .lst ds]) [gT gs s] = .ok (.lst ds) [gT gs s] from rfl) (ev_fn (ds := [.gr 0, .int ds.length]) rfl rfl e) ?_))
  show atI ds r = some a
  exact hat
/-- a truth told -/
def isTs : R (Fl × Ev) → Bool
  | .ok (.rt (.bl true), _) _ => true
  | _ => false
theorem isTs_of {m : R (Fl × Ev)} (h : isTs m = true) : ∃ e g, m = .ok (.rt (.bl true), e) g := by
  unfold isTs at h
  split at h
  · exact ⟨_, _, rfl⟩
  · cases h
theorem rest_true {m : MS} {env : Ev} (hf : FrE m) (h : isTs (m env []) = true) (g : G) : ∃ e, m env g = .ok (.rt (.bl true), e) g := by
  obtain ⟨e, g', z⟩ := isTs_of h
  refine ⟨e, ?_⟩
  rw [hf env g, z]
  rfl
theorem fr_val {F : List D → G → R D} (hf : FrF F) {ds : List D} {d : D} (h : F ds [] = .ok d []) (g : G) : F ds g = .ok d g := by
  rw [hf ds g, h]; rfl
/-- turns of what is refused -/
theorem turnsT {i j : Nat} {RR : List D → G → R D} (hij : i ≠ j) (hR : ∀ g, StT g → ∃ g', StT g' ∧ RR [.gr 0] g = .ok (.bl true) g') : ∀ (ds : List D) (env : Ev) (g : G), env[i]? = some (.val (.gr 0)) → StT g →
    ∃ env' g', StT g' ∧ forL (bName j) (mIfS (mNotT (mTst (mFn 1 RR (mCons (mVar i) (mNil))))) (mRet (mC (.bl false))) (mSkip)) ds env g = .ok (.nx, env') g'
  | [], env, g, _, S => ⟨env, g, S, rfl⟩
  | d :: ds, env, g, he, S => by
    have he' : (env.set j (.val d))[i]? = some (.val (.gr 0)) := by rw [List.getElem?_set_ne (fun z => hij z.symm)]; exact he
    obtain ⟨g1, S1, e1⟩ := hR g S
    obtain ⟨env', g', S', e'⟩ := turnsT hij hR ds (env.set j (.val d)) g1 he' S1
    refine ⟨env', g', S', ?_⟩
    have A0 : (mCons (mVar i) (mNil)) (env.set j (.val d)) g = .ok [.gr 0] g := by
      unfold mCons mVar
      rw [he']; rfl
    have A : (mIfS (mNotT (mTst (mFn 1 RR (mCons (mVar i) (mNil))))) (mRet (mC (.bl false))) (mSkip)) (env.set j (.val d)) g = .ok (.nx, env.set j (.val d)) g1 := by
      refine (ev_ifF (g1 := g1) ?_).trans rfl
      unfold mNotT
      rw [ev_tst (ev_fn (n := 1) A0 rfl e1)]; rfl
    rw [forL]
    simp only [bName]
    rw [A]
    exact e'
end GT

namespace GT
open PySem PySem.Spec PyProof.Rows L2 RZ
/-- a statement that owns nothing, its end told at an empty store -/
theorem st_at {m : MS} {env env1 : Ev} (hf : FrE m) (h : m env [] = .ok (.nx, env1) []) (g : G) : m env g = .ok (.nx, env1) g := by
  rw [hf env g, h]; rfl
theorem ar_at {m : MA} {env : Ev} {ds : List D} (hf : FrE m) (h : m env [] = .ok ds []) (g : G) : m env g = .ok ds g := by
  rw [hf env g, h]; rfl
def envOf : R (Fl × Ev) → Ev
  | .ok (.nx, e) _ => e
  | _ => []
def itemsOf : R (List D) → List D
  | .ok [_, .lst ds] _ => ds
  | _ => []
/-- a draw from a list, and then what owns nothing -/
theorem turn_core {A : MA} {B : Bnd} {rest : MS} {env : Ev} {items : List D} (fA : FrE A) (hA : A env [] = .ok [.gr 0, .lst items] []) (hn : items ≠ []) (hl : items.length ≤ 1000) (fR : FrE rest)
    (hall : items.all (fun d => isTs (mSeq (mAsg (mC d) B) rest env [])) = true) (g : G) (S : StT g) : ∃ e g', StT g' ∧ mSeq (mAsg (mFn 2 mOfT A) B) rest env g = .ok (.rt (.bl true), e) g' := by
  obtain ⟨d, g', hd, S', e⟩ := ofT_ok (ds := items) S hn hl
  obtain ⟨e3, h3⟩ := rest_true (fr_seq (fr_asg fr_c) fR) (List.all_eq_true.mp hall d hd) g'
  refine ⟨e3, g', S', ?_⟩
  rw [← h3]
  have h1 : mFn 2 mOfT A env g = .ok d g' := ev_fn (ar_at fA hA g) rfl e
  unfold mSeq mAsg
  rw [h1]
  rfl
/-- turns of a loop whose body goes on -/
theorem turnsB {i j : Nat} {bd : MS} (hij : i ≠ j) (hR : ∀ env g, env[i]? = some (.val (.gr 0)) → StT g → ∃ g', StT g' ∧ bd env g = .ok (.nx, env) g') : ∀ (ds : List D) (env : Ev) (g : G), env[i]? = some (.val (.gr 0)) → StT g →
    ∃ env' g', StT g' ∧ forL (bName j) bd ds env g = .ok (.nx, env') g'
  | [], env, g, _, S => ⟨env, g, S, rfl⟩
  | d :: ds, env, g, he, S => by
    have he' : (env.set j (.val d))[i]? = some (.val (.gr 0)) := by rw [List.getElem?_set_ne (fun z => hij z.symm)]; exact he
    obtain ⟨g1, S1, e1⟩ := hR _ g he' S
    obtain ⟨env', g', S', e'⟩ := turnsB hij hR ds (env.set j (.val d)) g1 he' S1
    refine ⟨env', g', S', ?_⟩
    rw [forL]
    simp only [bName]
    rw [e1]
    exact e'
theorem call_gr {i : Nat} {RR : List D → G → R D} (hR : ∀ g, StT g → ∃ g', StT g' ∧ RR [.gr 0] g = .ok (.bl true) g') (env : Ev) (g : G) (he : env[i]? = some (.val (.gr 0))) (S : StT g) : ∃ g', StT g' ∧ mNotT (mTst (mFn 1 RR (mCons (mVar i) (mNil)))) env g = .ok false g' := by
  obtain ⟨g1, S1, e1⟩ := hR g S
  refine ⟨g1, S1, ?_⟩
  have A0 : (mCons (mVar i) (mNil)) env g = .ok [.gr 0] g := by
    unfold mCons mVar
    rw [he]; rfl
  unfold mNotT
  rw [ev_tst (ev_fn (n := 1) A0 rfl e1)]; rfl
theorem or_gr {a b : MT} {env : Ev} {g : G} (ha : ∃ g', StT g' ∧ a env g = .ok false g') (hb : ∀ g, StT g → ∃ g', StT g' ∧ b env g = .ok false g') : ∃ g', StT g' ∧ mOrT a b env g = .ok false g' := by
  obtain ⟨g1, S1, e1⟩ := ha
  obtain ⟨g2, S2, e2⟩ := hb g1 S1
  refine ⟨g2, S2, ?_⟩
  unfold mOrT
  rw [e1]
  exact e2
theorem if_gr {c : MT} {m1 : MS} {env : Ev} {g : G} (h : ∃ g', StT g' ∧ c env g = .ok false g') : ∃ g', StT g' ∧ mIfS c m1 mSkip env g = .ok (.nx, env) g' := by
  obtain ⟨g1, S1, e1⟩ := h
  exact ⟨g1, S1, (ev_ifF e1).trans rfl⟩
/-- how many turns -/
theorem turns_at {es : Ev} {g : G} {ns : List Int} {a b : Int} (ha : 0 ≤ a) (hb : 0 ≤ b) (hab : a + b ≤ 1000) :
    (mRg1 (mBin fAdd (mC (.int a)) (mBlt fMin (mCons (mBlt fLen (mCons (mPk 0) (mNil))) (mCons (mC (.int b)) (mNil)))))) (.val (.scr ns) :: es) g = .ok (rgD 0 (a + min (ns.length : Int) b)) g := by
  show (if rgOk 0 (a + min (ns.length : Int) b) then R.ok (rgD 0 (a + min (ns.length : Int) b)) _ else R.stuck) = _
  rw [if_pos]
  unfold rgOk
  simp only [Bool.and_eq_true, decide_eq_true_eq]
  omega
/-- a law of turns and of what is told by hand -/
theorem hand_law {n : Nat} {a b : Int} {bd : MS} {hand : ME} (hn : n = 3) (ha : 0 ≤ a) (hb : 0 ≤ b) (hab : a + b ≤ 1000)
    (hR : ∀ env g, env[1]? = some (.val (.gr 0)) → StT g → ∃ g', StT g' ∧ bd env g = .ok (.nx, env) g') (hH : ∀ env g, hand env g = .ok (.bl true) g) (ns : List Int) (hl : ns.length ≤ 63) :
    ∃ g, mDef n (mSeq (mAsg (mFn 1 mBegunT (mCons (mVar 0) (mNil))) (bName 1)) (mSeq (mFor (mRg1 (mBin fAdd (mC (.int a)) (mBlt fMin (mCons (mBlt fLen (mCons (mPk 0) (mNil))) (mCons (mC (.int b)) (mNil)))))) (bName 2) bd) (mRet hand))) [.scr ns] [] = .ok (.bl true) g := by
  subst hn
  have hb0 := begunT_ok ns []
  have S0 : StT [gT (ns.filter fun n => decide (10 ^ 18 ≤ n)) (seedT 20231 ns)] := ⟨_, _, rfl, Nat.le_trans (List.length_filter_le _ _) (by omega)⟩
  have h1 : mAsg (mFn 1 mBegunT (mCons (mVar 0) (mNil))) (bName 1) [.val (.scr ns), .no, .no] [] = .ok (.nx, [.val (.scr ns), .val (.gr 0), .no]) [gT (ns.filter fun n => decide (10 ^ 18 ≤ n)) (seedT 20231 ns)] := ev_asg (ev_fn (ds := [.scr ns]) rfl rfl hb0)
  obtain ⟨env', g', S', h2⟩ := turnsB (i := 1) (j := 2) (by decide) hR (rgD 0 (a + min (ns.length : Int) b)) [.val (.scr ns), .val (.gr 0), .no] _ rfl S0
  have h3 : (mFor (mRg1 (mBin fAdd (mC (.int a)) (mBlt fMin (mCons (mBlt fLen (mCons (mPk 0) (mNil))) (mCons (mC (.int b)) (mNil)))))) (bName 2) bd) [.val (.scr ns), .val (.gr 0), .no] [gT (ns.filter fun n => decide (10 ^ 18 ≤ n)) (seedT 20231 ns)] = .ok (.nx, env') g' := by
    unfold mFor
    rw [turns_at ha hb hab]
    exact h2
  exact ⟨g', ev_def ((ev_seq h1).trans ((ev_seq h3).trans (ev_ret (hH _ g'))))⟩
end GT

/-! GtZt: {k: v} with a tuple as the key. -/
namespace GT
open PySem PySem.Spec PyProof.Rows L2 RZ

def tDisp1T (tk tv : TE) : TE := fun σ H Q => ∀ p, H p = none → tk σ (L2.upd H p (.dT [])) fun x H1 => tv σ H1 fun y H2 => ∃ (b : Addr) (ks : List Key), x = .ref b ∧ H2 b = some (.tup (ks.map kV)) ∧ H2 p = some (.dT []) ∧ Q (.ref p) (L2.upd H2 p (.dT [(ks, y)]))
section
variable {X : Cx}
theorem pe_disp1T {k v : Expr} {pos : Pos} {tk tv : TE} (hu : X.A.units < cLine) (hk : PE X k tk) (hv : PE X v tv) : PE X (.Dict [some k] [v] pos) (tDisp1T tk tv) := by
  refine ⟨fun pins s σ H Q I q => ?_⟩
  have hn := I.hok.fresh (Nat.le_refl s.heap.objs.size)
  have I1 := I.laid (a := s.heap.objs.size) (o := .dT []) (h' := s.heap.push { cls := .type "dict", data := .dict #[] }) (t' := s.toks) (fun _ _ q => Heap.get?_push_of_some _ q) (Nat.le_refl _) (dt_empty s.heap I.big)
  rw [arm_eval_Dict, show (evalEachOpt [some k] X.env).zip ((evalEach [v] X.env).map fun v => do let x ← v; standAt pos; pure x) = (pairTrees [some k] [v] X.env pos).map fun p => (some p.1, p.2) from rfl, dictDisplay_pairs (pairTrees [some k] [v] X.env pos) (by intro z; cases z) (by show 1 < 17; decide)]
  refine wpAny_bind (wpAny_standAt (wpAny_bind (wpAny_subDictH (knd := tupleKind (mixKind X.prog X.w)) (A := X.A) hu (by show 1 ≤ 15; decide) ?_)))
  refine pairTrees_cons_walk (thn (hk.run pins _ σ _ _ I1 (q _ hn)) fun u s1 ⟨x, H1, I2, rx, q1⟩ => thn (hv.run pins s1 σ H1 _ I2 q1) fun w2 s2 ⟨y, H2, I3, ry, b, ks, ex, eb, ep, q2⟩ => pairTrees_nil_walk ?_)
  subst ex
  obtain rfl : u = Value.ref b := rx
  obtain ⟨z, hd, xs, rel, dd⟩ := dt_of I3.hok ep
  cases rel
  refine ⟨[(ks, b, w2)], ⟨rfl, rfl, key_of I3.hok eb, trivial⟩, dd, fun h' tk' dd' hs => wpAny_pure ⟨.ref s.heap.objs.size, _, ?_, rfl, q2⟩⟩
  obtain ⟨o, es, en, ho, h2, h3, h4, _, h5⟩ := dd'
  refine d_write I3 (by rw [ep]; exact True.intro) hs ⟨o, ho⟩ ⟨by rw [sizeLine_eq]; show 1 ≤ _; decide, hd, [(ks, b, w2)], .cons ⟨rfl, ?_, ry⟩ .nil, o, es, en, ho, h2, h3, h4, h5⟩
  rw [upd_ne (ne_of eb ep (fun z => nomatch z))]
  exact eb
end
def mD1 (mk mv : ME) : MD := fun env g => (mk env g).bind fun k g1 => (mv env g1).bind fun v g2 => match tkeyOf k with
  | some q => .ok (.T [(q, v)]) g2
  | none => .stuck
section
variable {X : Cx} {C : Cst} {Wx : WX}
theorem sn_d1T {k v : Expr} {pos : Pos} {mk mv : ME} (hu : X.A.units < cLine) (hk : PE X k (RE C Wx mk)) (hv : PE X v (RE C Wx mv)) : PE X (.Dict [some k] [v] pos) (RNd C Wx (mD1 mk mv)) := PEm (pe_disp1T hu hk hv) fun σ H Q h => by
  obtain ⟨W, env, oas, g, r, S, P⟩ := h
  intro p hp
  have b0 : Bs C (fun b => b = p ∨ W b) g r (L2.upd H p (.dT [])) := S.bs.more hp (fun z => nomatch z)
  have S1 := S.grow b0 (Step.upd hp) hp
  have sub : ∀ a, W a → (fun b => b = p ∨ W b) a := fun a z => .inr z
  refine ⟨_, env, oas, g, r, S1, ?_⟩
  unfold mD1 at P
  revert P
  cases mk env g with
  | stuck => exact fun P => P
  | exc c fs g' => exact fun P cl dx H' r' b s q => P cl dx H' r' (b.anti sub) ((Step.upd hp).trans s) (q.anti sub)
  | ok d g1 =>
    intro P x H1 r1 b1 s1 q1
    refine ⟨_, env, oas, g1, r1, S1.step s1 b1, ?_⟩
    revert P
    show PostN C Wx W r σ H (CtD C) Q ((mv env g1).bind fun v g2 => match tkeyOf d with
      | some q => .ok (.T [(q, v)]) g2
      | none => .stuck) → _
    cases mv env g1 with
    | stuck => exact fun P => P
    | exc c fs g' => exact fun P cl dx H' r' b s q => P cl dx H' r' (b.anti sub) (((Step.upd hp).trans s1).trans s) (q.anti sub)
    | ok e g2 =>
      intro P y H2 r2 b2 s2 q2
      revert P
      show PostN C Wx W r σ H (CtD C) Q (match tkeyOf d with
        | some q => .ok (.T [(q, e)]) g2
        | none => .stuck) → _
      cases ek : tkeyOf d with
      | none => exact fun P => P.elim
      | some q =>
        intro P
        unfold tkeyOf at ek
        split at ek
        · have q1' := q1.step s2
          cases q1' with
          | tup ht _ _ _ qt =>
            rw [keysOf_rp qt ek] at ht
            have npr : p ∉ r := S.bs.r0 hp
            have e1 : H1 p = some (.dT []) := s1.ext p _ upd_same npr (fun _ z => nomatch z)
            have npr1 : p ∉ r1 := fun z => by
              rcases s1.fresh p z with y | y
              · exact npr y
              · rw [upd_same] at y; cases y
            have e2 : H2 p = some (.dT []) := s2.ext p _ e1 npr1 (fun _ z => nomatch z)
            refine ⟨_, q, rfl, ht, e2, ?_⟩
            have hw : (fun b => b = p ∨ W b) p := .inl rfl
            have npr2 : p ∉ r2 := fun z => b2.dis p z hw
            have bw := b2.write (o := .dT [(q, y)]) hw (fun ps z => by rw [e2] at z; cases z) (fun z => nomatch z) (fun q' z => by rw [e2] at z; unfold LamX.CodeO at z; cases z)
            have st : Step r r2 H (L2.upd H2 p (.dT [(q, y)])) := by
              have t := ((Step.upd (r := r) (o := HO.dT []) hp).trans s1).trans s2
              refine ⟨t.pre, t.fresh, fun a o ha hr no => ?_, fun a ha => ?_⟩
              · rw [upd_ne (ne_of_none ha hp)]
                exact t.ext a o ha hr no
              · by_cases z : a = p
                · rw [z]; exact hp
                · rw [upd_ne z] at ha; exact t.dom a ha
            exact P p _ r2 bw st hp (S.bs.w0 hp) (.T upd_same rfl (by rw [sizeLine_eq]; show 1 ≤ _; decide) (.cons (q2.keep (Kp.write hw)) .nil))
        · cases ek
end
theorem fr_d1 {mk mv : ME} (hk : FrE mk) (hv : FrE mv) : FrE (mD1 mk mv) := fun env => Fr.bind (hk env) fun k => Fr.bind (hv env) fun v => by
  cases tkeyOf k with
  | none => exact Fr.st
  | some q => exact Fr.ok
/-! ### d.get(k, v) -/
def isDict : D → Bool
  | .dK _ => true
  | .dT _ => true
  | _ => false
def mGet2 (mo mk mv : ME) : ME := fun env g => (mo env g).bind fun d g1 => if isDict d then (mk env g1).bind fun k g2 => (mv env g2).bind fun v g3 => match dGet d k with
  | some o => .ok (o.getD v) g3
  | none => .stuck
  else .stuck
theorem fr_get2 {mo mk mv : ME} (ho : FrE mo) (hk : FrE mk) (hv : FrE mv) : FrE (mGet2 mo mk mv) := fun env => Fr.bind (ho env) fun d => Fr.ite (Fr.bind (hk env) fun k => Fr.bind (hv env) fun v => by
  cases dGet d k with
  | none => exact Fr.st
  | some q => exact Fr.ok) Fr.st
section
variable {X : Cx} {C : Cst} {Wx : WX}
theorem se_get2 {o e f : Expr} {apos cpos : Pos} {mo mk mv : ME} (hu : X.A.units + 1 < cLine) (ho : PE X o (RP C Wx mo)) (hk : PE X e (RP C Wx mk)) (hv : PE X f (RE C Wx mv)) (m : M2 X o "get" apos e f cpos) : PE X (.Call (.Attribute o "get" apos) [e, f] [] cpos) (RE C Wx (mGet2 mo mk mv)) :=
  PEm (pe_dget2 hu ho hk hv m) fun σ H Q h => by
    obtain ⟨W, env, oas, g, r, S, P⟩ := h
    refine ⟨W, env, oas, g, r, S, Post.mono (Post.split P) fun x H1 ⟨d, g1, r1, b1, s1, p1, q1⟩ => ?_⟩
    by_cases hd : isDict d = true
    · replace q1 : Post C Wx W r1 σ H1 (RlE C W) Q (if isDict d then (mk env g1).bind fun k g2 => (mv env g2).bind fun v g3 => match dGet d k with
        | some o => .ok (o.getD v) g3
        | none => .stuck
        else .stuck) := q1
      rw [if_pos hd] at q1
      obtain ⟨a, ea, isd⟩ : ∃ a, x = .ref a ∧ IsD H1 a := by
        cases d with
        | dK kvs =>
          obtain ⟨a, xs, rfl, h1, _⟩ := p1.isDK
          exact ⟨a, rfl, .inl ⟨_, h1⟩⟩
        | dT kvs =>
          obtain ⟨a, xs, rfl, h1, _⟩ := p1.isDT
          exact ⟨a, rfl, .inr ⟨_, h1⟩⟩
        | _ => cases hd
      refine ⟨a, ea, isd, W, env, oas, g1, r1, S.step s1 b1, Post.mono (Post.split q1) fun y H2 ⟨k, g2, r2, b2, s2, p2, q2⟩ => ?_⟩
      refine ⟨W, env, oas, g2, r2, (S.step s1 b1).step s2 b2, Post.mono (Post.split q2) fun z H3 ⟨v, g3, r3, b3, s3, p3, q3⟩ => ?_⟩
      have p1' := (p1.step s2).step s3
      have p2' := p2.step s3
      replace q3 : Post C Wx W r3 σ H3 (RlE C W) Q (match dGet d k with
        | some o => .ok (o.getD v) g3
        | none => .stuck) := q3
      cases e : dGet d k with
      | none => rw [e] at q3; exact q3.elim
      | some od =>
        rw [e] at q3
        obtain ⟨a', e', hh⟩ := dGet_rp p1' p2' e
        rw [ea] at e'
        cases e'
        rcases hh with ⟨rfl, dg⟩ | ⟨w, u, rfl, hw, dg⟩
        · exact ⟨none, dg, q3 _ _ r3 b3 (Step.refl _ _) p3⟩
        · exact ⟨some u, dg, q3 _ _ r3 b3 (Step.refl _ _) hw⟩
    · replace q1 : Post C Wx W r1 σ H1 (RlE C W) Q (if isDict d then (mk env g1).bind fun k g2 => (mv env g2).bind fun v g3 => match dGet d k with
        | some o => .ok (o.getD v) g3
        | none => .stuck
        else .stuck) := q1
      rw [if_neg hd] at q1
      exact q1.elim
end
end GT

/-! GtPb: sorted of a list of tuples of a text and ints. -/
namespace GT
open PySem PySem.Spec PyProof.Rows L2 RZ
def kTI (p : Str × List Int) : List (Int ⊕ List Nat) := .inr p.1.cps.toList :: p.2.map .inl
def ltTI (p q : Str × List Int) : Bool := lexLt itemOrd (kTI p) (kTI q)
def shTI (i : Nat) : Bool := i == 0
theorem swoK : SrtO.Swo (lexLt itemOrd) := ⟨fun x y h => by
  cases e : lexLt itemOrd y x with
  | false => rfl
  | true => exact absurd (lex_trans x y x h e) (by rw [lex_irrefl]; exact Bool.false_ne_true), fun x y z h1 h2 => by
  cases e : lexLt itemOrd z x with
  | false => rfl
  | true =>
    rcases lex_negTrans z y x e with q | q
    · rw [h2] at q; cases q
    · rw [h1] at q; cases q⟩
theorem swoTI : SrtO.Swo ltTI := ⟨fun x y => swoK.1 _ _, fun x y z => swoK.2 _ _ _⟩
theorem swoTIk {α : Type} (k : α → Str × List Int) : SrtO.Swo fun x y => ltTI (k x) (k y) := ⟨fun x y => swoTI.1 _ _, fun x y z => swoTI.2 _ _ _⟩
def IsTI (h : Heap) (v : Value) (p : Str × List Int) : Prop := ∃ a o its n t rs, v = .ref a ∧ h.get? a = some o ∧ o.cls = .type "tuple" ∧ o.data = .seq its n ∧ its.toList = .str p.1 t :: rs ∧ IntsAre rs p.2
theorem IsTI.keeps {h h' : Heap} {v : Value} {p : Str × List Int} (q : IsTI h v p) (k : ∀ b o, h.get? b = some o → o.cls = .type "tuple" → h'.get? b = some o) : IsTI h' v p := by
  obtain ⟨a, o, its, n, t, rs, e, ho, hc, hd⟩ := q
  exact ⟨a, o, its, n, t, rs, e, k _ _ ho hc, hc, hd⟩
theorem items_ints {i : Nat} : ∀ {rs : List Value} {ns : List Int}, IntsAre rs ns → tupItems shTI (i + 1) rs = some (ns.map .inl)
  | _, _, .nil => rfl
  | _, _, .cons n t h => by
    unfold tupItems
    rw [if_neg (by simp [shTI]), items_ints (i := i + 1) h]
    rfl
theorem IsTI.key {h : Heap} {v : Value} {p : Str × List Int} (q : IsTI h v p) : tupKey h shTI v = some (kTI p) := by
  obtain ⟨a, o, its, n, t, rs, rfl, ho, hc, hd, hi, hn⟩ := q
  simp only [tupKey, ho, hd]
  rw [hi]
  unfold tupItems
  rw [if_pos (show shTI 0 = true from rfl), items_ints (i := 0) hn]
  rfl
section
variable {prog : Program} {w : World} {A : Around} {E : Value → Shared → Prop} {s : Shared}
theorem ti_cmp {vs : List Value} {k : Value → Str × List Int} (hp : ∀ v ∈ vs, IsTI s.heap v (k v)) : SrtO.Cmp prog w A s (tuples' true) (fun p => p.1 ∈ vs) (SrtO.lt2 fun v u => ltTI (k v) (k u)) := by
  intro p q hm hm'
  exact tup_ltAt (shape := shTI) true A _ p.1 q.1 _ _ (hp _ hm).key (hp _ hm').key ⟨rfl, rfl⟩
theorem firstsT {h : Heap} {k : Value → Str × List Int} : ∀ {vs : List Value}, (∀ v ∈ vs, IsTI h v (k v)) → ∃ fs : List Value, TupsOf h shTI vs fs ∧ fs.length = vs.length
  | [], _ => ⟨[], .nil, rfl⟩
  | v :: vs, hp => by
    obtain ⟨fs, h1, h2⟩ := firstsT (vs := vs) fun v' hm => hp v' (List.mem_cons_of_mem _ hm)
    obtain ⟨a, o, its, n, t, rs, e, ho, hc, hd, hi, hn⟩ := hp v (List.mem_cons_self ..)
    refine ⟨.str (k v).1 t :: fs, .cons ⟨a, o, its, n, e, ho, hc, hd, ?_, (fun z => by cases z), fun _ => ⟨_, _, rfl⟩⟩ h1, by rw [List.length_cons, List.length_cons, h2]⟩
    rw [← Array.getElem?_toList, hi]; rfl
theorem ti_sortable {a : Addr} {vs : List Value} {k : Value → Str × List Int} (h0 : 0 < vs.length) (hp : ∀ v ∈ vs, IsTI s.heap v (k v)) (ha : ∀ o, s.heap.get? a = some o → o.cls ≠ .type "tuple") : SrtO.SortableO prog w A s a vs fun v u => ltTI (k v) (k u) := by
  intro h' keep
  have hp' : ∀ v ∈ vs, IsTI h' v (k v) := fun v hm => (hp v hm).keeps fun b o e c => keep b o (fun z => by subst z; exact ha o e c) e
  obtain ⟨fs, h1, h2⟩ := firstsT hp'
  exact ⟨tuples' true, fun Q E hq => tup_kind (s := { s with heap := h' }) (by omega) h1 hq, ti_cmp hp'⟩
theorem sorted_ti {l : Addr} {vs : List Value} {k : Value → Str × List Int} {Q : Value → Shared → Prop} (hl : s.heap.IsList l vs.toArray) (hz : vs.length ≤ sizeLine) (hp : ∀ v ∈ vs, IsTI s.heap v (k v))
    (h : ∀ (h' : Heap) (d : Addr) (out : List Value), SrtO.Srtd (fun v u => ltTI (k v) (k u)) out → SrtO.Stb (fun v u => ltTI (k v) (k u)) out vs → (∀ b o, s.heap.get? b = some o → h'.get? b = some o) → s.heap.objs.size ≤ d → (∃ n, h'.get? d = some (seqObj "list" out.toArray n)) → Q (.ref d) { s with heap := h' }) :
    wpAny (model prog w) A (call (.builtin "sorted") [.ref l]) Q E s := by
  refine SrtO.sorted_ord (swoTIk k) hl hz (fun h2 h₁ a ha kk => ?_) fun out hs hb => ?_
  · refine ti_sortable (s := { s with heap := h₁ }) (by omega) (fun v hm => (hp v hm).keeps fun b o e _ => (kk b o e).2) fun o e => ?_
    have e' : some o = some (seqObj "list" vs.toArray 0) := e.symm.trans ha
    cases e'
    intro c
    exact absurd (Value.type.inj c) (by decide)
  · exact h _ _ out hs hb (fun b o e => sortedAll_old e) (Nat.le_succ _) (sortedAll_at s.heap vs out.toArray)
end
def rSortedT (K : PySem.W.Frag) : List V → Hp → VK → Prop := fun vs H Q => ∃ (a : Addr) (xs : List V) (k : V → Str × List Int), vs = [V.ref a] ∧ SqL K H a xs ∧ (∀ x ∈ xs, ∃ t, x = V.ref t ∧ H t = some (.tup (V.str (k x).1 :: (k x).2.map V.int))) ∧
  ∀ ys p, SrtO.Srtd (fun x y => ltTI (k x) (k y)) ys → SrtO.Stb (fun x y => ltTI (k x) (k y)) ys xs → H p = none → Q (.ref p) (upd H p (.lst ys))
theorem cr_sortedT {X : Cx} : CallR X (.builtin "sorted") (rSortedT X.K) := by
  intro pins s σ H vs us Q I r h
  obtain ⟨a, xs, k, rfl, hs, hx, q⟩ := h
  obtain ⟨its, rv, hl, hz⟩ := I.list hs
  obtain ⟨u, rfl, ru⟩ := vals1 r
  obtain rfl : u = Value.ref a := ru
  obtain ⟨e1, e2⟩ := refs_back rv fun x m => by
    obtain ⟨t, e, _⟩ := hx x m
    exact ⟨t, e⟩
  refine sorted_ti (k := fun u => k (backV u)) hl.isList (by rw [← rv.length]; exact hz) (fun v hv => ?_) fun h' d out h1 h2 kp hd hn => ?_
  · obtain ⟨t, rfl⟩ := e2 v hv
    have hm : V.ref t ∈ xs := by rw [e1]; exact List.mem_map.mpr ⟨_, hv, rfl⟩
    obtain ⟨t', e, ht⟩ := hx _ hm
    cases e
    obtain ⟨_, its2, r2, o, ho, hc, n, hd⟩ := I.hok _ _ ht
    cases r2 with
    | cons h t =>
      obtain ⟨tk, rfl⟩ := h
      exact ⟨_, o, _, n, tk, _, rfl, ho, hc, hd, rfl, Vals.ints t⟩
  · have h3 : ∀ u ∈ out, ∃ a, u = Value.ref a := fun u hu => e2 u (h2.perm.mem_iff.mp hu)
    obtain ⟨n, hn⟩ := hn
    have hb : SrtO.Stb (fun x y => ltTI (k x) (k y)) (out.map backV) xs := by
      rw [e1]
      exact SrtO.Stb.map (swoTIk k) backV h2
    refine ⟨.ref d, upd H d (.lst (out.map backV)), I.laid (t' := s.toks) kp hd ⟨?_, out, n, vals_back h3, hn⟩, rfl, q _ d (SrtO.srtd_map h1) hb (I.hok.fresh hd)⟩
    rw [hb.len]
    exact hz
/-! ### in data -/
def tisOf : List D → Option (List (Str × List Int))
  | [] => some []
  | .tup (.str s :: ds) :: es => match intsOf ds, tisOf es with
    | some ns, some nss => some ((s, ns) :: nss)
    | _, _ => none
  | _ :: _ => none
def fSortedT : List D → Option D
  | [.lst ds] => (tisOf ds).map fun nss => .lst ((sortL ltTI nss).map fun p => .tup (.str p.1 :: p.2.map .int))
  | _ => none
section
variable {C : Cst}
def backK (H : Hp) : V → Str × List Int
  | .ref t => match H t with
    | some (.tup (.str s :: xs)) => (s, xs.filterMap fun x => match x with
        | .int i => some i
        | _ => none)
    | _ => ("", [])
  | _ => ("", [])
theorem backK_at {H : Hp} {t : Addr} {s : Str} {ns : List Int} (h : H t = some (.tup (.str s :: ns.map V.int))) : backK H (.ref t) = (s, ns) := by
  have fm : ∀ ns : List Int, (ns.map V.int).filterMap (fun x => match x with
        | .int i => some i
        | _ => none) = ns := fun ns => by
    induction ns with
    | nil => rfl
    | cons n ns ih => rw [List.map_cons, List.filterMap_cons]; simp only [ih]
  unfold backK
  simp only [h, fm]
theorem tisOf_rp {r : List Addr} {W : Addr → Prop} {H : Hp} : ∀ {ds : List D} {vs : List V} {nss : List (Str × List Int)}, RpL C r W H ds vs → tisOf ds = some nss →
    vs.map (backK H) = nss ∧ ∀ x ∈ vs, (∃ t, x = .ref t ∧ H t = some (.tup (.str (backK H x).1 :: (backK H x).2.map V.int))) ∧ Rp C r W H (.tup (.str (backK H x).1 :: (backK H x).2.map D.int)) x := fun {ds} => by
  induction ds with
  | nil =>
    intro vs nss h e
    cases h
    simp only [tisOf] at e
    cases e
    exact ⟨rfl, fun x hx => by cases hx⟩
  | cons d ds ih =>
    intro vs nss h e
    cases h with
    | cons h t =>
      unfold tisOf at e
      split at e
      · rename_i e1; cases e1
      · rename_i s1 ds1 es1 e1
        cases e1
        split at e
        · rename_i ns nss' a1 a2
          cases e
          obtain ⟨i1, i2⟩ := ih t a2
          cases h with
          | tup ht hz hr hw q =>
            cases q with
            | cons qh q =>
              obtain ⟨j1, j2⟩ := intsOf_rp q a1
              subst j1
              have qs := qh.isStr
              subst qs
              have kv := backK_at ht
              refine ⟨by rw [List.map_cons, kv, i1], fun x hx => ?_⟩
              rcases List.mem_cons.mp hx with z | z
              · subst z
                rw [kv]
                refine ⟨⟨_, rfl, ht⟩, ?_⟩
                rw [← j2]; exact .tup ht hz hr hw (.cons qh q)
              · exact i2 x z
        · cases e
      · cases e
theorem cs_sortedT : CallS C fSortedT (rSortedT C.K) := fun Wx W g r σ H ds d xs Q e b p z => by
  unfold fSortedT at e
  split at e
  · rename_i es
    rw [Option.map_eq_some_iff] at e
    obtain ⟨nss, e1, rfl⟩ := e
    obtain ⟨v, rfl, p'⟩ := p.one
    obtain ⟨a, us, rfl, h1, hz, q1⟩ := p'.isLst
    obtain ⟨hk, ha⟩ := tisOf_rp q1 e1
    refine ⟨a, us, backK H, rfl, .inl (.inl h1), fun x hx => (ha x hx).1, fun ys p hs hb hp => ?_⟩
    have e2 : ys.map (backK H) = sortL ltTI nss := by
      refine sortL_uniq swoTI (SrtO.srtd_map hs) ?_
      rw [← hk]
      exact SrtO.Stb.map swoTI (backK H) hb
    have hz' : ys.length ≤ sizeLine := by rw [hb.len]; exact hz
    have q2 : RpL C r W H ((sortL ltTI nss).map fun p => .tup (.str p.1 :: p.2.map .int)) ys := by
      rw [← e2, List.map_map]
      refine RpL.of_get (by simp) fun i d v h1 h2 => ?_
      rw [List.getElem?_map, h2] at h1
      cases h1
      exact (ha v (hb.perm.mem_iff.mp (List.mem_of_getElem? h2))).2
    exact z _ _ r (b.upd hp) (Step.upd hp) (Rp.newL b hp hz' q2)
  · cases e
end
def fSortedA (ds : List D) : Option D := match fSorted ds with
  | some d => some d
  | none => fSortedT ds
def rSortedA (K : PySem.W.Frag) : List V → Hp → VK → Prop := fun xs H Q => rSortedL K xs H Q ∨ rSortedT K xs H Q
theorem cr_sortedA {X : Cx} : CallR X (.builtin "sorted") (rSortedA X.K) := cr_sortedL.or cr_sortedT
theorem cs_sortedA {C : Cst} : CallS C fSortedA (rSortedA C.K) := fun Wx W g r σ H ds d xs Q e b p z => by
  unfold fSortedA at e
  split at e
  · rename_i d' e'
    cases e
    exact .inl (cs_sorted Wx W g r σ H ds d xs Q e' b p z)
  · exact .inr (cs_sortedT Wx W g r σ H ds d xs Q e b p z)
end GT

namespace GT
open PySem PySem.Spec PyProof.Rows L2 RZ
theorem tuple_mul1 (l : Addr) (items : Array Value) (n : Nat) (dd : Option Addr) (sl : Array (Option Value)) (u : Tok) :
    Meets (Builtin.«tuple.__mul__» ⟨[.ref l, .int 1 u], []⟩) (fun _ R s => s.heap.get? l = some { cls := .type "tuple", dict := dd, data := .seq items n, slots := sl } ∧ R (.ok (.ret (Value.ref l))) s) :=
  .of_wp fun prog w A R s h => by
    obtain ⟨hp, g, d, tk, os⟩ := s
    obtain ⟨hl, h⟩ := h
    have f1 := AutoSeq1.idx_int
    wp_walk using wpAny_loadPart' hl
    exact ⟨_, rfl, h⟩
/-- t * 1 is t -/
def rRep1 (K : PySem.W.Frag) : R2 := fun x y H Q => ∃ l xs, x = .ref l ∧ y = .int 1 ∧ SqT K H l xs ∧ Q (.ref l) H
theorem op_rep1 {X : Cx} : OpR X (binaryOp .Mult) (rRep1 X.K) := by
  intro pins s σ H x y v u Q I rx ry h
  obtain ⟨l, xs, rfl, rfl, hT, q⟩ := h
  cases rx
  obtain ⟨t, rfl⟩ := ry
  obtain ⟨its, r, ⟨⟨cls, dd, data, sl⟩, ho, hc, n, hd⟩, hs⟩ := I.tuple hT
  simp only at hc hd
  subst hc hd
  exact wpAny_binaryOp_repeat_ref (T := "tuple") (U := "int") (by decide) ⟨_, ho, rfl⟩ (fun s' => typeIs_int s' 1 t) noFill_tuple_mul F.fills_int_mul F.slot_int_rmul repeat_tuple F.slot_int_index.lookup
    (call_meets F.slot_int_rmul (typeIs_int s 1 t) F.entry_int_rmul (F.args_int_rmul_2 _ _) (int_rmul_tuple 1 t l its.toArray n dd sl)
      ⟨ho, rfl, ⟨_, ho, rfl⟩, call_meets F.slot_tuple_mul ⟨_, ho, rfl⟩ F.entry_tuple_mul (F.args_tuple_mul_2 _ _) (tuple_mul1 l its.toArray n dd sl t) ⟨ho, .ref l, H, I, rfl, q⟩⟩)
def fMulA (a b : D) : Option D := match a, b with
  | .tup xs, .int 1 => some (.tup xs)
  | a, b => fMul a b
def rMulB (K : PySem.W.Frag) : R2 := fun x y H Q => rRep1 K x y H Q ∨ rMulA K x y H Q
theorem op_mulB {X : Cx} : OpR X (binaryOp .Mult) (rMulB X.K) := op_rep1.or op_mulA
theorem os_mulB {C : Cst} : OpS C fMulA (rMulB C.K) := fun Wx W g r σ H da db d x y Q e b p1 p2 z => by
  unfold fMulA at e
  split at e
  · cases e
    have e2 := p2.isInt
    subst e2
    cases p1 with
    | of p =>
      cases p with
      | tup h hz hr hw q => exact .inl ⟨_, _, rfl, rfl, .inl (.inl h), z.here b (.tup h hz hr hw q)⟩
  · exact .inr (os_mul Wx W g r σ H da db d x y Q e b p1 p2 z)
end GT

/-! GtVd: a walk over a list, a tuple or a dict's keys, whichever it is. -/
namespace GT
open PySem PySem.Spec PyProof.Rows L2 RZ
def itD : D → Option (List D)
  | .lst ds => some ds
  | .tup ds => some ds
  | .scr ns => some (ns.map .int)
  | .dK kvs => some (kvs.map fun kv => kD kv.1)
  | .dT kvs => if kvs.all (fun kv => decide (kv.1.length ≤ 1000000)) then some (kvs.map fun kv => .tup (kv.1.map kD)) else none
  | _ => none
def mItB (m : ME) : MI := fun env g => (m env g).bind fun d g1 => match itD d with
  | some ds => .ok ds g1
  | none => .stuck
section
variable {X : Cx} {C : Cst} {Wx : WX}
theorem get_map2 {α β γ : Type} {l : List (α × β)} {m : List (α × γ)} (h : l.map (·.1) = m.map (·.1)) {i : Nat} {k : α} {v : γ} (e : m[i]? = some (k, v)) : ∃ w, l[i]? = some (k, w) := by
  have := congrArg (·[i]?) h
  simp only [List.getElem?_map, e, Option.map_some] at this
  cases z : l[i]? with
  | none => rw [z] at this; cases this
  | some p => rw [z] at this; obtain ⟨p1, p2⟩ := p; cases this; exact ⟨_, rfl⟩
theorem itr_dK {r : List Addr} {W : Addr → Prop} {H : Hp} {a : Addr} {o : Obj} {ks : List (Key × D)} {xs : List (Key × V)} (h : H a = some (.frz o (.dK xs))) (hl : ks.map (·.1) = xs.map (·.1)) (hz : xs.length ≤ sizeLine) (hr : a ∉ r) (hw : ¬ W a) : ItR C r W H (ks.map fun kv => kD kv.1) (Itk a o xs) := by
  have ln : ks.length = xs.length := by simpa using congrArg List.length hl
  refine ⟨by rw [List.length_map, ln]; exact hz, _, _, by rw [List.length_map, ln]; exact walk_keys, fun r' W' H' k => k.ext _ _ h hr hw (fun _ z => by cases z), fun i r' W' g' H' x H'' k b hi y => ?_⟩
  obtain ⟨rfl, q, v, e, rfl⟩ := y
  obtain ⟨w, e2⟩ := get_map2 hl e
  exact ⟨kD q, by rw [List.getElem?_map, e2]; rfl, b, Step.refl _ _, kD_rp q⟩
theorem itr_dT {r : List Addr} {W : Addr → Prop} {H : Hp} {a : Addr} {o : Obj} {ks : List (List Key × D)} {xs : List (List Key × V)} (h : H a = some (.frz o (.dT xs))) (hl : ks.map (·.1) = xs.map (·.1)) (hz : xs.length ≤ sizeLine) (hk : ks.all (fun kv => decide (kv.1.length ≤ 1000000)) = true) (hr : a ∉ r) (hw : ¬ W a) : ItR C r W H (ks.map fun kv => .tup (kv.1.map kD)) (Itkt a o xs) := by
  have ln : ks.length = xs.length := by simpa using congrArg List.length hl
  refine ⟨by rw [List.length_map, ln]; exact hz, _, _, by rw [List.length_map, ln]; exact walk_keysT, fun r' W' H' k => k.ext _ _ h hr hw (fun _ z => by cases z), fun i r' W' g' H' x H'' k b hi y => ?_⟩
  obtain ⟨rfl, q, v, p, e, rfl, hp⟩ := y
  obtain ⟨w, e2⟩ := get_map2 hl e
  have hq : q.length ≤ sizeLine := mil (by have := List.all_eq_true.mp hk _ (List.mem_of_getElem? e2); simpa using this)
  have z := keysT_rp (C := C) b (kvs := [(q, v)]) (bs := [p]) (by rw [sizeLine_eq]; simp) (fun kv hkv => by cases List.mem_singleton.mp hkv; exact hq) (.cons hp .nil)
  cases z with
  | cons z _ => exact ⟨_, by rw [List.getElem?_map, e2]; rfl, b, Step.refl _ _, z⟩
theorem si_anyD {e tg : Expr} {m : ME} (hK : C.K = X.K) (he : PE X e (RE C Wx m)) : PI X tg e (RI C Wx (mItB m)) := by
  refine ⟨fun pins s σ H R I h => ?_⟩
  obtain ⟨W, env, oas, g, r, S, P⟩ := h
  by_cases hd : ∃ d g1, m env g = .ok d g1 ∧ ((∃ k, d = .dK k) ∨ ∃ k, d = .dT k)
  · obtain ⟨d, g1, e1, hd⟩ := hd
    refine (pi_keys he).run pins s σ H R I ⟨W, env, oas, g, r, S, ?_⟩
    unfold mItB at P
    rw [e1] at P ⊢
    have P' : Post C Wx W r σ H (fun r' H' ds J => ItR C r' W H' ds J) R (match itD d with | some ds => .ok ds g1 | none => .stuck) := P
    intro v H1 r1 b1 s1 p1
    rcases hd with ⟨k, rfl⟩ | ⟨k, rfl⟩
    · cases p1 with
      | dK h hl hz hr hw q =>
        obtain ⟨o, h⟩ := h
        exact ⟨_, o, rfl, .inl ⟨_, h, P' _ H1 r1 b1 s1 (itr_dK h hl hz hr hw)⟩⟩
    · cases p1 with
      | dT h hl hz hr hw q =>
        obtain ⟨o, h⟩ := h
        unfold itD at P'
        dsimp only at P'
        by_cases hk : k.all (fun kv => decide (kv.1.length ≤ 1000000)) = true
        · rw [if_pos hk] at P'
          exact ⟨_, o, rfl, .inr ⟨_, h, P' _ H1 r1 b1 s1 (itr_dT h hl hz hk hr hw)⟩⟩
        · rw [if_neg hk] at P'
          exact P'.elim
  · refine (si_any hK he).run pins s σ H R I ⟨W, env, oas, g, r, S, ?_⟩
    unfold mItA
    unfold mItB at P
    revert P hd
    cases m env g with
    | stuck => exact fun P _ => P
    | exc c fs g1 => exact fun P _ => P
    | ok d g1 =>
      intro P hd
      cases d with
      | dK k => exact absurd ⟨_, _, rfl, .inl ⟨_, rfl⟩⟩ hd
      | dT k => exact absurd ⟨_, _, rfl, .inr ⟨_, rfl⟩⟩ hd
      | _ => exact P
theorem fr_itB {m : ME} (h : FrE m) : FrE (mItB m) := fun env => Fr.bind (h env) fun d => by cases itD d <;> first | exact Fr.ok | exact Fr.st
end
end GT

/-! GtVe: a list that is the sum of two, as a name's own. -/
namespace GT
open PySem PySem.Spec PyProof.Rows L2 RZ
def mCatN (ma mb : ME) : Ev → G → R (List D) := fun env g => (ma env g).bind fun a g1 => (mb env g1).bind fun b g2 => match a, b with
  | .lst xs, .lst ys => if xs.length + ys.length ≤ 1000000 then .ok (xs ++ ys) g2 else .stuck
  | _, _ => .stuck
section
variable {X : Cx} {C : Cst} {Wx : WX}
theorem sn_cat {a b : Expr} {pos : Pos} {ma mb : ME} (ha : PE X a (RP C Wx ma)) (hb : PE X b (RP C Wx mb)) : PE X (.BinOp a .Add b pos) (RN C Wx (mCatN ma mb)) :=
  PEm (pe_op op_cat ha hb) fun σ H Q h => by
    obtain ⟨W, env, oas, g, r, S, P⟩ := h
    refine ⟨W, env, oas, g, r, S, ?_⟩
    unfold mCatN at P
    revert P
    cases ma env g with
    | exc c fs g1 => exact fun P => P
    | stuck => exact fun P => P
    | ok d g1 =>
      intro P v H1 r1 b1 s1 p1
      simp only [R.bind] at P
      refine ⟨W, env, oas, g1, r1, S.step s1 b1, ?_⟩
      revert P
      cases mb env g1 with
      | exc c fs g2 => exact fun P cl dx H' r' b s q => P cl dx H' r' b (s1.trans s) q
      | stuck => exact fun P => P
      | ok e g2 =>
        intro P w H2 r2 b2 s2 p2
        dsimp only at P
        split at P
        · rename_i xs ys
          split at P
          · rename_i hlen
            obtain ⟨a, us, rfl, h1, hz, q1⟩ := (p1.step s2).isLst
            obtain ⟨b, ws, rfl, h2, hz2, q2⟩ := p2.isLst
            have hl : (us ++ ws).length ≤ sizeLine := by
              rw [List.length_append, ← q1.length, ← q2.length]; exact mil hlen
            refine ⟨a, b, us, ws, rfl, rfl, h1, h2, by rw [← List.length_append]; exact hl, fun l hl0 => ?_⟩
            exact P l _ r2 (b2.more hl0 (fun z => nomatch z)) ((s1.trans s2).trans (Step.upd hl0)) (s1.dom _ (s2.dom _ hl0)) (b2.w0 hl0) (Ct.new (g := g2) hl0 hl (q1.append q2))
          · exact P.elim
        · exact P.elim
theorem fr_catN {ma mb : ME} (h : FrE ma) (h2 : FrE mb) : FrE (mCatN ma mb) := fun env => Fr.bind (h env) fun a => Fr.bind (h2 env) fun b => by
  split
  · split <;> first | exact Fr.ok | exact Fr.st
  · exact Fr.st
end
end GT

/-! GtVf: xs[::-1] of a list. -/
namespace GT
open PySem PySem.Spec PyProof.Rows L2 RZ
def mRevN (m : ME) : Ev → G → R (List D) := fun env g => (m env g).bind fun d g1 => match d with
  | .lst ds => .ok ds.reverse g1
  | _ => .stuck
section
variable {X : Cx} {C : Cst} {Wx : WX}
theorem sn_rev {e : Expr} {k : Nat} {p1 p2 p3 pos : Pos} {m : ME} (hK : C.K = X.K) (he : PE X e (RP C Wx m)) : PE X (.Subscript e (.Slice none none (some (.UnaryOp .USub (.Constant (.int 1) k p1) p2)) p3) pos) (RN C Wx (mRevN m)) :=
  PEm (pe_revL he) fun σ H Q h => by
    obtain ⟨W, env, oas, g, r, S, P⟩ := h
    refine ⟨W, env, oas, g, r, S, ?_⟩
    unfold mRevN at P
    revert P
    cases m env g with
    | exc c fs g1 => exact fun P => P
    | stuck => exact fun P => P
    | ok d g1 =>
      intro P v H1 r1 b1 s1 p1
      simp only [R.bind] at P
      split at P
      · obtain ⟨a, us, rfl, h1, hz, q1⟩ := p1.isLst
        refine ⟨a, us, rfl, .inl (.inl h1), fun l hl => ?_⟩
        exact P l _ r1 (b1.more hl (fun z => nomatch z)) (s1.trans (Step.upd hl)) (s1.dom _ hl) (b1.w0 hl) (Ct.new (g := g1) hl (by rw [List.length_reverse]; exact hz) q1.rev)
      · exact P.elim
theorem fr_revN {m : ME} (h : FrE m) : FrE (mRevN m) := fun env => Fr.bind (h env) fun d => by cases d <;> first | exact Fr.ok | exact Fr.st
end
end GT

/-! GtVg: dict([(k, v), ..]), the keys tuples. -/
namespace GT
open PySem PySem.Spec PyProof.Rows L2 RZ
/-- a pair (k, v) at t -/
def PrT (H : Hp) (t : Addr) (kv : List Key × V) : Prop := ∃ b, H t = some (.tup [.ref b, kv.2]) ∧ H b = some (.tup (kv.1.map kV))
def putAll (acc : List (List Key × V)) (kvs : List (List Key × V)) : List (List Key × V) := kvs.foldl (fun acc kv => putK acc kv.1 kv.2) acc
def rDictT : List V → Hp → VK → Prop := fun xs H Q => ∃ (a : Addr) (ts : List Addr) (kvs : List (List Key × V)), xs = [.ref a] ∧ H a = some (.lst (ts.map V.ref)) ∧ Paired (PrT H) ts kvs ∧ ts.length ≤ 1000000 ∧ ∀ p, H p = none → Q (.ref p) (upd H p (.dT (putAll [] kvs)))
theorem pairs_at {P : Program} {w : World} {H : Hp} {h : Heap} (ok : HOk P w H h) : ∀ {ts : List Addr} {kvs : List (List Key × V)}, Paired (PrT H) ts kvs →
    ∃ ps : List (List Key × Addr × Value), KT H kvs ps ∧ ps.length = ts.length ∧ ∀ (j : Nat) p, ps[j]? = some p → ∃ t, ts[j]? = some t ∧ h.IsTuple t #[.ref p.2.1, p.2.2]
  | _, _, .nil => ⟨[], .nil, rfl, fun j p e => by simp at e⟩
  | _, _, .cons (a := t) (b := kv) hd tl => by
    obtain ⟨ps, r, hl, hp⟩ := pairs_at ok tl
    obtain ⟨b, e1, e2⟩ := hd
    obtain ⟨_, its, rv, o, o1, o2, n, o3⟩ := (show ObjOk P w H h t (.tup [.ref b, kv.2]) from ok t _ e1)
    obtain ⟨u, y, ei, ru, ry⟩ := vals2 rv
    subst ei
    obtain rfl : u = Value.ref b := ru
    refine ⟨(kv.1, b, y) :: ps, .cons ⟨rfl, e2, ry⟩ r, by simp [hl], fun j p e => ?_⟩
    cases j with
    | zero =>
      simp only [List.getElem?_cons_zero, Option.some.injEq] at e
      subst e
      exact ⟨t, rfl, o, o1, o2, n, o3⟩
    | succ j => exact hp j p (by simpa using e)
theorem kt_all {H : Hp} : ∀ {kvs acc : List (List Key × V)} {ps xs : List (List Key × Addr × Value)}, KT H kvs ps → KT H acc xs → KT H (putAll acc kvs) (storedAllH xs ps)
  | _, _, _, _, .nil, h => h
  | _, _, _, _, .cons hd tl, h => by
    obtain ⟨e1, e2, e3⟩ := hd
    have z := KT.put h _ e2 e3
    have y := kt_all tl z
    rw [e1] at y
    unfold putAll storedAllH at y ⊢
    rw [List.foldl_cons, List.foldl_cons, e1]
    exact y
theorem putAll_len : ∀ (kvs acc : List (List Key × V)), (putAll acc kvs).length ≤ acc.length + kvs.length
  | [], acc => Nat.le_refl _
  | kv :: kvs, acc => by
    have h1 := putAll_len kvs (putK acc kv.1 kv.2)
    have h2 := length_putK acc kv.1 kv.2
    show (putAll (putK acc kv.1 kv.2) kvs).length ≤ _
    rw [List.length_cons]; omega
section
variable {X : Cx} {C : Cst} {Wx : WX}
theorem call_dictT (hc : X.calm = true) (hu : X.A.units + 2 < cLine) : CallR X (.type "dict") rDictT := by
  intro pins s σ H xs us Q I r h
  obtain ⟨a, ts, kvs, rfl, ha, pr, hl, q⟩ := h
  obtain ⟨u, rfl, rx⟩ := vals1 r
  cases rx
  obtain ⟨_, its, n, rv, ho⟩ := (show ObjOk X.prog X.w H s.heap a (.lst (ts.map V.ref)) from I.hok a _ ha)
  obtain ⟨ps, kt, hlen, hp⟩ := pairs_at I.hok pr
  have hits : ∀ {ts : List Addr} {its : List Value}, Vals (ts.map V.ref) its → its = ts.map Value.ref := by
    intro ts
    induction ts with
    | nil => intro its z; cases z; rfl
    | cons t ts ih =>
      intro its z
      cases z with
      | cons z1 z2 => rw [List.map_cons, ih z2]; cases z1; rfl
  have hi := hits rv
  subst hi
  refine call_dict_pairsH (knd := tupleKind (mixKind X.prog X.w)) (ps := ps) (PairArg.list a (ts.map Value.ref).toArray (fun j => ts.getD j 0) (ps.map fun p => (Value.ref p.2.1, p.2.2))) (I.ok.hd hc) (show X.A.in1.in1.units < cLine from ?_) ⟨⟨_, n, ho, rfl, rfl, rfl⟩, ?_⟩ ⟨by rw [List.length_map], ?_⟩ ?_ ?_ ?_
  · show X.A.units + 1 + 1 < cLine
    omega
  · refine ⟨by simp [hlen], fun j k v e => ?_⟩
    rw [List.getElem?_map, Option.map_eq_some_iff] at e
    obtain ⟨p, e1, e2⟩ := e
    cases e2
    obtain ⟨t, e3, e4⟩ := hp j p e1
    have : ts.getD j 0 = t := by rw [List.getD_eq_getElem?_getD, e3]; rfl
    show _ = some (Value.ref (ts.getD j 0)) ∧ PairAt s.heap (ts.getD j 0) _ _
    rw [this]
    exact ⟨by simp [e3], .inl e4⟩
  · intro i key v e
    rw [PairRel, List.getElem?_map, Option.map_eq_some_iff] at e
    obtain ⟨p, e1, e2⟩ := e
    cases e2
    exact ⟨p.1, p.2.1, e1, rfl⟩
  · intro h' hk x hx
    have key : (tupleKind (mixKind X.prog X.w)).is s.heap x.1 x.2.1 := by
      obtain ⟨j, hj⟩ := List.getElem?_of_mem hx
      have : ∀ {kvs : List (List Key × V)} {ps : List (List Key × Addr × Value)} {j : Nat}, KT H kvs ps → ps[j]? = some x → H x.2.1 = some (.tup (x.1.map kV)) := by
        intro kvs ps j z
        induction z generalizing j with
        | nil => intro e; simp at e
        | cons z1 z2 ih =>
          intro e
          cases j with
          | zero =>
            simp only [List.getElem?_cons_zero, Option.some.injEq] at e
            subst e
            obtain ⟨q1, q2, _⟩ := z1
            rw [← q1]; exact q2
          | succ j => exact ih (j := j) (by simpa using e)
      exact key_of I.hok (this kt hj)
    obtain ⟨o, it, m, o1, o2⟩ := key
    exact ⟨o, it, m, hk _ _ (Nat.ne_of_lt (Heap.lt_size o1)) (by simp) o1, o2⟩
  · rw [List.length_map, hlen]; exact mil hl
  · intro h' tk dd kp
    have kp' : ∀ b o, s.heap.get? b = some o → h'.get? b = some o := fun b o e => kp b o (by simp) e
    have hn := I.hok.fresh (Nat.le_refl s.heap.objs.size)
    have kt2 := kt_all kt (acc := []) (xs := []) .nil
    obtain ⟨o, es, ep, d1, d2, d3, d4, _, d5⟩ := dd
    have hlk : kvs.length = ts.length := by rw [kt.length, hlen]
    refine ⟨.ref s.heap.objs.size, _, I.laid (t' := tk) (a := s.heap.objs.size) (o := .dT (putAll [] kvs)) (h' := h') kp' (Nat.le_refl _) ⟨?_, ?_, _, ?_, o, es, ep, d1, d2, d3, d4, d5⟩, rfl, q _ hn⟩
    · have := putAll_len kvs []
      rw [sizeLine_eq]; simp at this; omega
    · exact beq_false_of_ne (Nat.ne_of_gt I.big)
    · exact kt2.keeps fun b ys e => by rw [upd_ne (ne_of_none e hn)]; exact e
/-! mirrors -/
def dpL : List D → DS → Option DS
  | [], acc => some acc
  | .tup [k, v] :: ds, acc => (acc.put k v).bind (dpL ds)
  | _ :: _, _ => none
def mDictP (m : ME) : MD := fun env g => (m env g).bind fun d g1 => match d with
  | .lst ds => if ds.length ≤ 1000000 then (match dpL ds (.T []) with
    | some s => .ok s g1
    | none => .stuck) else .stuck
  | _ => .stuck
theorem dpL_rp {r : List Addr} {W : Addr → Prop} {H : Hp} : ∀ {ds : List D} {vs : List V} {kd : List (List Key × D)} {xs : List (List Key × V)} {s : DS}, RpL C r W H ds vs → dpL ds (.T kd) = some s → kd.map (·.1) = xs.map (·.1) → RpL C r W H (kd.map (·.2)) (xs.map (·.2)) →
    ∃ ts kvs kd', vs = ts.map V.ref ∧ Paired (PrT H) ts kvs ∧ s = .T kd' ∧ kd'.map (·.1) = (putAll xs kvs).map (·.1) ∧ RpL C r W H (kd'.map (·.2)) ((putAll xs kvs).map (·.2))
  | _, _, kd, xs, s, .nil, e, h1, h2 => by
    simp only [dpL, Option.some.injEq] at e
    subst e
    exact ⟨[], [], kd, rfl, .nil, rfl, h1, h2⟩
  | _, _, kd, xs, s, .cons (d := d) (ds := ds) hd tl, e, h1, h2 => by
    cases hd with
    | tup ht hz hr hw q =>
      rename_i a us ds2
      match ds2, e, q with
      | [k, v], e, .cons qk (.cons qv .nil) =>
        rename_i ku vu
        simp only [dpL, Option.bind_eq_some_iff] at e
        obtain ⟨s1, e1, e2⟩ := e
        unfold DS.put at e1
        dsimp only at e1
        split at e1
        · rw [Option.map_eq_some_iff] at e1
          obtain ⟨ks, e3, rfl⟩ := e1
          have hk : ∃ b, ku = V.ref b ∧ H b = some (.tup (ks.map kV)) := by
            unfold tkeyOf at e3
            split at e3
            · cases qk with
              | tup hb _ _ _ qt =>
                rw [keysOf_rp qt e3] at hb
                exact ⟨_, rfl, hb⟩
            · cases e3
          obtain ⟨b, rfl, hb⟩ := hk
          obtain ⟨p1, p2⟩ := putD_rp ks qv h1 h2
          obtain ⟨ts, kvs, kd', f1, f2, f3, f4, f5⟩ := dpL_rp tl e2 p1 p2
          exact ⟨a :: ts, (ks, vu) :: kvs, kd', by rw [f1]; rfl, .cons ⟨b, ht, hb⟩ f2, f3, f4, f5⟩
        · cases e1
      | [], e, _ => simp [dpL] at e
      | [_], e, _ => simp [dpL] at e
      | _ :: _ :: _ :: _, e, _ => simp [dpL] at e
    | _ => simp [dpL] at e
theorem sn_dictP {e : Expr} {p pos : Pos} {m : ME} (hca : X.calm = true) (hu : X.A.units + 2 < cLine) (hg : Gl X "dict") (hm : X.mg "dict" = none) (he : PE X e (RP C Wx m)) (hst : starEach [e] X.env = [(false, eval e X.env)] := by rfl) : PE X (.Call (.Name "dict" p) [e] [] pos) (RNd C Wx (mDictP m)) :=
  PEm (pe_callTy (call_dictT hca hu) hg hm (by decide +kernel) (pa_cons he pa_nil hst) (by decide) (by decide) hst rfl) fun σ H Q h => by
    obtain ⟨W, env, oas, g, r, S, P⟩ := h
    refine ⟨W, env, oas, g, r, S, ?_⟩
    unfold mDictP at P
    revert P
    cases m env g with
    | stuck => exact fun P => P
    | exc c fs g1 => exact fun P => P
    | ok d g1 =>
      intro P v H1 r1 b1 s1 p1
      simp only [R.bind] at P
      split at P
      · rename_i ds
        split at P
        · rename_i hl
          split at P
          · rename_i s0 e0
            obtain ⟨a, us, rfl, h1, hz, q1⟩ := p1.isLst
            obtain ⟨ts, kvs, kd', f1, f2, rfl, f4, f5⟩ := dpL_rp (xs := []) q1 e0 rfl .nil
            subst f1
            have hlt : ts.length ≤ 1000000 := by rw [q1.length, List.length_map] at hl; exact hl
            refine ⟨a, ts, kvs, rfl, h1, f2, hlt, fun l hl0 => ?_⟩
            have hlen := putAll_len kvs []
            have hkv : kvs.length = ts.length := f2.length.symm
            exact P l _ r1 (b1.more hl0 (fun z => nomatch z)) (s1.trans (Step.upd hl0)) (s1.dom _ hl0) (b1.w0 hl0) (.T upd_same f4 (by rw [sizeLine_eq]; simp at hlen; omega) (f5.keep (Kp.more hl0)))
          · exact P.elim
        · exact P.elim
      · exact P.elim
theorem fr_dictP {m : ME} (h : FrE m) : FrE (mDictP m) := fun env => Fr.bind (h env) fun d => by
  cases d with
  | lst ds =>
    refine Fr.ite ?_ Fr.st
    cases dpL ds (.T []) with
    | some s => exact Fr.ok
    | none => exact Fr.st
  | _ => exact Fr.st
end
end GT

/-! GtVh: sorted(d) of a dict whose keys are tuples of ints. -/
namespace GT
open PySem PySem.Spec PyProof.Rows L2 RZ
section
variable {prog : Program} {w : World} {A : Around} {E : Value → Shared → Prop} {s : Shared}
/-- sorted of what is collected first -/
theorem sorted_col {v : Value} {vs : List Value} {lt : Value → Value → Bool} {Q : Value → Shared → Prop} (O : SrtO.Swo lt)
    (hcol : ∀ R : List Value → Shared → Prop, (∀ h' tk, (∀ b o, s.heap.get? b = some o → h'.get? b = some o) → R vs { s with heap := h', toks := tk }) → wpAny (model prog w) A.in1 (collect v) R E s) (hz : vs.length ≤ sizeLine)
    (hS : 2 ≤ vs.length → ∀ (h1 : Heap) (a : Addr) (tk : Nat), h1.get? a = some (seqObj "list" vs.toArray 0) → (∀ b o, s.heap.get? b = some o → b ≠ a ∧ h1.get? b = some o) → SrtO.SortableO prog w A.in1.in1 { s with heap := h1, toks := tk } a vs lt)
    (h : ∀ (h' h2 : Heap) (tk : Nat) (out : List Value), SrtO.Srtd lt out → SrtO.Stb lt out vs → (∀ b o, s.heap.get? b = some o → h'.get? b = some o) → (∀ b o, h'.get? b = some o → h2.get? b = some o) → (∃ n, h2.get? h'.objs.size = some (seqObj "list" out.toArray n)) → Q (.ref h'.objs.size) { s with heap := h2, toks := tk }) :
    wpAny (model prog w) A (call (.builtin "sorted") [v]) Q E s := by
  refine Calls.call_function_entry kind_sorted plain_sorted entry_sorted (args_sorted1 _) ?_
  unfold Builtin.«sorted»
  refine wpAny_bind (m := checkCount "sorted" 1 1 _) (wpAny_pure ?_)
  refine wpAny_bind (hcol _ fun h' tk kp => ?_)
  refine wpAny_bind (wpAny_newList ?_ hz)
  have at0 : (h'.push (seqObj "list" vs.toArray 0)).get? h'.objs.size = some (seqObj "list" vs.toArray 0) := Heap.get?_push_size _ rfl
  have size : ∀ b o, s.heap.get? b = some o → b < h'.objs.size := fun b o e => Heap.lt_size (kp b o e)
  have up : ∀ b o, s.heap.get? b = some o → b ≠ h'.objs.size ∧ (h'.push (seqObj "list" vs.toArray 0)).get? b = some o := fun b o e => ⟨Nat.ne_of_lt (size b o e), Heap.get?_push_of_some _ (kp b o e)⟩
  show wpAny _ _ _ _ _ { s with heap := h'.push (seqObj "list" vs.toArray 0), toks := tk }
  refine wpAny_bind (wpAny_holding (wpAny_call_entry slot_list_sort ⟨_, at0, rfl⟩ entry_list_sort (SrtO.list_sort_ord (s := { s with heap := h'.push (seqObj "list" vs.toArray 0), toks := tk }) O at0 hz (fun h2 => hS h2 _ _ tk at0 up) fun out z1 z2 => ⟨_, rfl, ?_⟩) (args_list_sort _)))
  refine wpAny_pure ⟨_, rfl, h h' _ tk out z1 z2 kp (fun b o e => ?_) (sortedHeap_at at0)⟩
  rw [sortedHeap_old (Nat.ne_of_lt (Heap.lt_size e)) (Nat.lt_trans (Heap.lt_size e) (by rw [Heap.size_push]; exact Nat.lt_succ_self _))]
  exact Heap.get?_push_of_some _ e
end
def rSortedDT : List V → Hp → VK → Prop := fun xs H Q => ∃ (d : Addr) (kvs : List (List Key × V)) (nss : List (List Int)), xs = [.ref d] ∧ Rd H d (.dT kvs) ∧ kvs.map (fun kv => kv.1.map kV) = nss.map (fun ns => ns.map V.int) ∧ (∀ ns ∈ nss, ns ≠ []) ∧
  ∀ ys p, Paired (fun ns y => ∃ t, y = V.ref t ∧ H t = some (.tup (ns.map V.int))) (sortL lexL nss) ys → ys.length ≤ sizeLine → H p = none → Q (.ref p) (upd H p (.lst ys))
section
variable {X : Cx} {C : Cst}
theorem cr_sortedDT (hc : X.calm = true) : CallR X (.builtin "sorted") rSortedDT := by
  intro pins s σ H xs us Q I r h
  obtain ⟨d, kvs, nss, rfl, hd, hk, hn, q⟩ := h
  obtain ⟨u, rfl, rx⟩ := vals1 r
  cases rx
  obtain ⟨z, hs, ks, pr, o, es, ep, ho, hx, hdt, he, _⟩ := (show ObjOk X.prog X.w H s.heap d (.dT kvs) from hd.ok I.hok)
  have l1 : es.size = ks.length := size_of_entries he
  have l2 : kvs.length = ks.length := Paired.length pr
  -- the ints of a key
  have hkey : ∀ {kvs : List (List Key × V)} {ks : List (List Key × Addr × Value)} {nss : List (List Int)}, KT H kvs ks → kvs.map (fun kv => kv.1.map kV) = nss.map (fun ns => ns.map V.int) → Paired (fun ns (x : List Key × Addr × Value) => H x.2.1 = some (.tup (ns.map V.int))) nss ks := by
    intro kvs ks nss pr
    induction pr generalizing nss with
    | nil => intro e; cases nss with
      | nil => exact .nil
      | cons => cases e
    | cons h t ih =>
      intro e
      cases nss with
      | nil => cases e
      | cons ns nss =>
        rw [List.map_cons, List.map_cons] at e
        injection e with e1 e2
        exact .cons (by rw [h.2.1, e1]) (ih e2)
  have pk := hkey pr hk
  let f : Value → List Int := fun u => match u with
    | .ref t => match H t with
      | some (.tup vs) => vs.filterMap fun v => match v with
        | .int i => some i
        | _ => none
      | _ => []
    | _ => []
  have fm : ∀ ns : List Int, (ns.map V.int).filterMap (fun x => match x with
        | .int i => some i
        | _ => none) = ns := fun ns => by
    induction ns with
    | nil => rfl
    | cons n ns ih => rw [List.map_cons, List.filterMap_cons]; simp only [ih]
  have ft : ∀ t ns, H t = some (.tup (ns.map V.int)) → f (.ref t) = ns := fun t ns ht => by
    show (match H t with
      | some (.tup vs) => vs.filterMap fun v => match v with
        | .int i => some i
        | _ => none
      | _ => []) = ns
    rw [ht]; exact fm ns
  let vs : List Value := ks.map fun x => Value.ref x.2.1
  have hvs : ∀ v ∈ vs, ∃ t ns, v = Value.ref t ∧ ns ≠ [] ∧ H t = some (.tup (ns.map V.int)) ∧ f v = ns := by
    have go : ∀ {nss : List (List Int)} {ks : List (List Key × Addr × Value)}, Paired (fun ns (x : List Key × Addr × Value) => H x.2.1 = some (.tup (ns.map V.int))) nss ks → (∀ ns ∈ nss, ns ≠ []) → ∀ v ∈ ks.map fun x => Value.ref x.2.1, ∃ t ns, v = Value.ref t ∧ ns ≠ [] ∧ H t = some (.tup (ns.map V.int)) ∧ f v = ns := by
      intro nss ks p
      induction p with
      | nil => intro _ v hv; cases hv
      | cons h t ih =>
        intro hn v hv
        rw [List.map_cons] at hv
        rcases List.mem_cons.mp hv with rfl | hv
        · exact ⟨_, _, rfl, hn _ (List.mem_cons_self ..), h, ft _ _ h⟩
        · exact ih (fun ns hm => hn ns (List.mem_cons_of_mem _ hm)) v hv
    exact go pk hn
  have hfv : vs.map f = nss := by
    have go : ∀ {nss : List (List Int)} {ks : List (List Key × Addr × Value)}, Paired (fun ns (x : List Key × Addr × Value) => H x.2.1 = some (.tup (ns.map V.int))) nss ks → (ks.map fun x => Value.ref x.2.1).map f = nss := by
      intro nss ks p
      induction p with
      | nil => rfl
      | cons h t ih => rw [List.map_cons, List.map_cons, ih, ft _ _ h]
    exact go pk
  have isI : ∀ v ∈ vs, ∀ h1 : Heap, (∀ b o, s.heap.get? b = some o → h1.get? b = some o) → f v ≠ [] ∧ IsInts h1 v (f v) := fun v hv h1 kp => by
    obtain ⟨t, ns, rfl, hne, ht, e⟩ := hvs v hv
    obtain ⟨_, its2, r2, o2, ho2, hc2, n2, hd2⟩ := (show ObjOk X.prog X.w H s.heap t (.tup (ns.map V.int)) from I.hok t _ ht)
    rw [e]
    exact ⟨hne, t, o2, its2.toArray, n2, rfl, kp _ _ ho2, hc2, hd2, Vals.ints r2⟩
  refine sorted_col (vs := vs) (swoLk f) (fun R hR => ?_) (by show (ks.map _).length ≤ _; rw [List.length_map]; omega) (fun h2 h1 a tk ha kk => ?_) fun h' h2 tk out z1 z2 k1 k2 hn2 => ?_
  · refine PySem.W.kdu_collect (A := X.A.in1) (kdl_raw hs hx hdt) (I.ok.hd hc) ho (by omega) fun h' tk acc kp it => ?_
    have ea : acc.toList = vs := by
      have hl : acc.toList.length = ks.length := by rw [Array.length_toList, it.1]; exact l1
      apply List.ext_getElem?
      intro j
      show _ = (ks.map fun x => Value.ref x.2.1)[j]?
      rw [List.getElem?_map]
      cases hj : acc.toList[j]? with
      | none =>
        have h1 := List.getElem?_eq_none_iff.mp hj
        rw [List.getElem?_eq_none (by omega)]
        all_goals rfl
      | some v =>
        obtain ⟨en, hen, hv⟩ := it.2 j v (by rw [← Array.getElem?_toList]; exact hj)
        have qe := entry_at he j
        rw [hen] at qe
        cases hb : ks[j]? with
        | none =>
          rw [hb] at qe
          exact nomatch (show some en = none from qe)
        | some b =>
          rw [hb] at qe
          have e2 : en = entryOfKey (tupleKind (mixKind X.prog X.w)) b := Option.some.inj qe
          rw [hv, e2]
          all_goals rfl
    rw [ea]
    exact hR h' tk kp
  · refine ints_sortable (s := { s with heap := h1, toks := tk }) (by omega) (fun v hm => isI v hm h1 fun b o e => (kk b o e).2) fun o e => ?_
    have e' : some o = some (seqObj "list" vs.toArray 0) := e.symm.trans ha
    cases e'
    intro c
    exact absurd (Value.type.inj c) (by decide)
  · have I1 : Inv X pins σ H { s with heap := h', toks := tk } := I.kept k1
    obtain ⟨n, hn2⟩ := hn2
    have hout : ∀ v ∈ out, ∃ t ns, v = Value.ref t ∧ ns ≠ [] ∧ H t = some (.tup (ns.map V.int)) ∧ f v = ns := fun v hv => hvs v (z2.perm.mem_iff.mp hv)
    have eo : out.map f = sortL lexL nss := by
      refine sortL_uniq swoL (SrtO.srtd_map z1) ?_
      rw [← hfv]
      exact SrtO.Stb.map swoL f z2
    have hvals : ∀ {out : List Value}, (∀ v ∈ out, ∃ t ns, v = Value.ref t ∧ ns ≠ [] ∧ H t = some (.tup (ns.map V.int)) ∧ f v = ns) → ∃ ys : List V, Vals ys out ∧ Paired (fun ns y => ∃ t, y = V.ref t ∧ H t = some (.tup (ns.map V.int))) (out.map f) ys := by
      intro out
      induction out with
      | nil => exact fun _ => ⟨[], .nil, .nil⟩
      | cons v out ih =>
        intro hv
        obtain ⟨ys, y1, y2⟩ := ih fun v hm => hv v (List.mem_cons_of_mem _ hm)
        obtain ⟨t, ns, rfl, _, ht, e⟩ := hv v (List.mem_cons_self ..)
        refine ⟨.ref t :: ys, .cons rfl y1, ?_⟩
        rw [List.map_cons]
        exact .cons ⟨t, rfl, by rw [e]; exact ht⟩ y2
    obtain ⟨ys, y1, y2⟩ := hvals hout
    have hl : ys.length ≤ sizeLine := by
      rw [y1.length, z2.len]
      show (ks.map _).length ≤ _
      rw [List.length_map]; omega
    have fr := I1.hok.fresh (Nat.le_refl h'.objs.size)
    rw [eo] at y2
    exact ⟨.ref h'.objs.size, upd H h'.objs.size (.lst ys), I1.laid (t' := tk) k2 (Nat.le_refl _) ⟨hl, out, n, y1, hn2⟩, rfl, q ys _ y2 hl fr⟩
/-! in data -/
def keyInts : List Key → Option (List Int)
  | [] => some []
  | .inl i :: ks => (keyInts ks).map (i :: ·)
  | .inr _ :: _ => none
def keysInts : List (List Key × D) → Option (List (List Int))
  | [] => some []
  | kv :: kvs => match keyInts kv.1, keysInts kvs with
    | some (n :: ns), some nss => some ((n :: ns) :: nss)
    | _, _ => none
theorem keyInts_ok : ∀ {ks : List Key} {ns : List Int}, keyInts ks = some ns → ks.map kV = ns.map V.int
  | [], ns, e => by simp only [keyInts, Option.some.injEq] at e; subst e; rfl
  | .inl i :: ks, ns, e => by
    simp only [keyInts, Option.map_eq_some_iff] at e
    obtain ⟨ms, e1, rfl⟩ := e
    rw [List.map_cons, List.map_cons, keyInts_ok e1]; rfl
  | .inr _ :: _, _, e => by simp [keyInts] at e
theorem keysInts_ok : ∀ {kvs : List (List Key × D)} {nss : List (List Int)}, keysInts kvs = some nss → kvs.map (fun kv => kv.1.map kV) = nss.map (fun ns => ns.map V.int) ∧ ∀ ns ∈ nss, ns ≠ []
  | [], nss, e => by simp only [keysInts, Option.some.injEq] at e; subst e; exact ⟨rfl, fun _ z => by cases z⟩
  | kv :: kvs, nss, e => by
    simp only [keysInts] at e
    split at e
    · rename_i n ns nss' e1 e2
      cases e
      obtain ⟨h1, h2⟩ := keysInts_ok e2
      refine ⟨by rw [List.map_cons, List.map_cons, h1, keyInts_ok e1], fun ms hm => ?_⟩
      rcases List.mem_cons.mp hm with rfl | hm
      · exact fun z => by cases z
      · exact h2 ms hm
    · cases e
def fSortedD : List D → Option D
  | [.dT kvs] => match keysInts kvs with
    | some nss => if (sortL lexL nss).all fun ns => decide (ns.length ≤ 1000) then some (.lst ((sortL lexL nss).map fun ns => .tup (ns.map .int))) else none
    | none => none
  | _ => none
theorem pairRp {r : List Addr} {W : Addr → Prop} {H : Hp} {g : G} (b : Bs C W g r H) : ∀ {nss : List (List Int)} {ys : List V}, Paired (fun ns y => ∃ t, y = V.ref t ∧ H t = some (.tup (ns.map V.int))) nss ys → (∀ ns ∈ nss, ns.length ≤ 1000000) → RpL C r W H (nss.map fun ns => .tup (ns.map .int)) ys
  | _, _, .nil, _ => .nil
  | _, _, .cons h t, hl => by
    obtain ⟨a, rfl, ha⟩ := h
    rw [List.map_cons]
    refine .cons (.tup ha (by rw [List.length_map]; exact mil (hl _ (List.mem_cons_self ..))) (fun z => b.objs.nt z _ ha) (fun z => b.wnt a z _ (.tup _) ha) (RpL.ints _)) (pairRp b t fun ns hm => hl ns (List.mem_cons_of_mem _ hm))
theorem cs_sortedD : CallS C fSortedD rSortedDT := fun Wx W g r σ H ds d xs Q e b p z => by
  unfold fSortedD at e
  split at e
  · rename_i kvs
    split at e
    · rename_i nss e1
      split at e
      · rename_i hall
        cases e
        obtain ⟨v, rfl, p'⟩ := p.one
        obtain ⟨a, us, rfl, h1, h2, hz, hr, q1⟩ := p'.isDT
        obtain ⟨k1, k2⟩ := keysInts_ok e1
        have hm : us.map (fun kv => kv.1.map kV) = nss.map (fun ns => ns.map V.int) := by
          rw [← k1]
          have e1 : us.map (fun kv => kv.1.map kV) = (us.map (·.1)).map (fun k => k.map kV) := by rw [List.map_map]; rfl
          have e2 : kvs.map (fun kv => kv.1.map kV) = (kvs.map (·.1)).map (fun k => k.map kV) := by rw [List.map_map]; rfl
          rw [e1, e2, h2]
        refine ⟨a, us, nss, rfl, h1, hm, k2, fun ys l hp hl hn => ?_⟩
        have q2 := pairRp b hp fun ns hns => by
          have := of_decide_eq_true (List.all_eq_true.mp hall ns hns)
          omega
        exact z _ _ r (b.upd hn) (Step.upd hn) (Rp.newL b hn hl q2)
      · cases e
    · cases e
  · cases e
def fSortedB (ds : List D) : Option D := match fSortedD ds with
  | some d => some d
  | none => fSortedA ds
def rSortedB (K : PySem.W.Frag) : List V → Hp → VK → Prop := fun xs H Q => rSortedDT xs H Q ∨ rSortedA K xs H Q
theorem cr_sortedB (hc : X.calm = true) : CallR X (.builtin "sorted") (rSortedB X.K) := (cr_sortedDT hc).or cr_sortedA
theorem cs_sortedB : CallS C fSortedB (rSortedB C.K) := fun Wx W g r σ H ds d xs Q e b p z => by
  unfold fSortedB at e
  split at e
  · rename_i d' e'
    cases e
    exact .inl (cs_sortedD Wx W g r σ H ds d xs Q e' b p z)
  · exact .inr (cs_sortedA Wx W g r σ H ds d xs Q e b p z)
end
end GT

/-! GtVi: l.index(x). -/
namespace GT
open PySem PySem.Spec PyProof.Rows L2 RZ
def fIdx (ds : List D) (x : D) : Option D := match D.pys ds, D.py x with
  | some ps, some p => if SeqAt.shaped (.list ps) && SeqAt.shaped p then (ps.findIdx? fun z => PyData.eqv z p).map fun j => .int (j : Nat) else none
  | _, _ => none
def mIdx (mo mx : ME) : ME := fun env g => (mo env g).bind fun d g1 => match d with
  | .lst ds => (mx env g1).bind fun x g2 => liftO (fIdx ds x) g2
  | _ => .stuck
section
variable {X : Cx} {C : Cst} {Wx : WX}
theorem se_idx {o e : Expr} {apos cpos : Pos} {mo mx : ME} (hK : C.K = X.K) (hu : X.A.units + 65 < cLine) (ho : PE X o (RP C Wx mo)) (he : PE X e (RP C Wx mx)) (hbase : attributeBase o "index" X.env (eval o X.env) = eval o X.env := by rfl)
    (hfew : ((backTo cpos (starEach [e] X.env)).all (fun x => !x.1) && (backToKw cpos (keywordEach [] X.env)).all (fun x => x.1.isSome) && decide ([e].length + ([] : List Keyword).length + (if ([] : List Keyword).isEmpty then 0 else 1) < 30)) = true := by rfl)
    (hline : (apos.endLine == cpos.line) = true := by rfl) (hs : starEach [e] X.env = [(false, eval e X.env)] := by rfl) : PE X (.Call (.Attribute o "index" apos) [e] [] cpos) (RE C Wx (mIdx mo mx)) :=
  PEm (pe_bm PySem.F.plainAttrs_list PySem.F.slot_list_index PySem.F.type_list_index (mt_indexD hu) ho (pa_cons he pa_nil hs) hbase hfew hline hs rfl) fun σ H Q h => by
    obtain ⟨W, env, oas, g, r, S, P⟩ := h
    refine ⟨W, env, oas, g, r, S, Post.mono (Post.split P) fun x H1 ⟨d, g1, r1, b1, s1, p1, q1⟩ => ?_⟩
    cases d with
    | lst ds =>
      obtain ⟨a, us, rfl, h1, hz, q⟩ := p1.isLst
      refine ⟨?_, W, env, oas, g1, r1, S.step s1 b1, Post.mono (Post.split (show Post C Wx W r1 σ H1 (RlE C W) Q ((mx env g1).bind fun x g2 => liftO (fIdx ds x) g2) from q1)) fun y H2 ⟨x, g2, r2, b2, s2, p2, q2⟩ => ?_⟩
      · exact .inl ⟨rfl, us, .inl (.inl h1)⟩
      · have p1' := p1.step s2
        replace q2 : Post C Wx W r2 σ H2 (RlE C W) Q (liftO (fIdx ds x) g2) := q2
        unfold fIdx at q2
        cases e1 : D.pys ds with
        | none => rw [e1] at q2; exact q2.elim
        | some ps =>
          cases e2 : D.py x with
          | none => rw [e1, e2] at q2; exact q2.elim
          | some p =>
            rw [e1, e2] at q2
            dsimp only at q2
            split at q2
            · rename_i hsh
              rw [Bool.and_eq_true] at hsh
              cases e3 : ps.findIdx? fun z => PyData.eqv z p with
              | none => rw [e3] at q2; exact q2.elim
              | some j =>
                rw [e3] at q2
                have hj := List.findIdx?_eq_some_iff_getElem.mp e3
                obtain ⟨hlt, hj1, hj2⟩ := hj
                refine ⟨a, y, p, ps, j, ps[j], rfl, rfl, ?_, ?_, hsh.1, hsh.2, List.getElem?_eq_getElem hlt, hj1, fun m z' hm hz' => ?_, Post.here (d := D.int (j : Nat)) (g := g2) q2 b2 (.int _)⟩
                · rw [← hK]
                  exact p1'.dp (by rw [D.py, e1]; rfl)
                · rw [← hK]
                  exact p2.dp e2
                · obtain ⟨hml, rfl⟩ := List.getElem?_eq_some_iff.mp hz'
                  have := hj2 m hm
                  simpa using this
            · exact q2.elim
    | _ => exact q1.elim
theorem fr_idx {mo mx : ME} (ho : FrE mo) (hx : FrE mx) : FrE (mIdx mo mx) := fun env => Fr.bind (ho env) fun d => by
  cases d with
  | lst ds => exact Fr.bind (hx env) fun x => Fr.lift
  | _ => exact Fr.st
end
end GT

/-! GtXa: *e in a display; lists that all may change; a def in a world of its own. -/
namespace GT
open PySem PySem.Spec PyProof.Rows L2 RZ
/-! ### *e -/
def mStar (m : ME) (ms : MA) : MA := fun env g => (m env g).bind fun d g1 => match d with
  | .tup xs => (ms env g1).bind fun ds g2 => .ok (xs ++ ds) g2
  | .lst xs => (ms env g1).bind fun ds g2 => .ok (xs ++ ds) g2
  | _ => .stuck
section
variable {X : Cx} {C : Cst} {Wx : WX}
theorem sa_star {e : Expr} {es : List Expr} {p : Pos} {m : ME} {ms : MA} (ha : PE X e (RE C Wx m)) (hr : PA X es (RA C Wx ms)) (hs : starEach (.Starred e p :: es) X.env = (true, eval e X.env) :: starEach es X.env := by rfl) : PA X (.Starred e p :: es) (RA C Wx (mStar m ms)) :=
  PAm (StX.pa_star ha hr hs) fun σ H Q h => by
    obtain ⟨W, env, oas, g, r, S, P⟩ := h
    refine ⟨W, env, oas, g, r, S, Post.mono (Post.split P) fun v H1 ⟨d, g1, r1, b1, s1, p1, q1⟩ => ?_⟩
    cases d with
    | tup ds =>
      obtain ⟨a, xs, rfl, h1, _, q⟩ := (PRp.of p1).isTup
      refine ⟨a, xs, rfl, .inl (.inl (.inl h1)), W, env, oas, g1, r1, S.step s1 b1, Post.mono (Post.split q1) fun w H2 ⟨e, g2, r2, b2, s2, p2, q2⟩ => ?_⟩
      exact Post.here (d := ds ++ e) (g := g2) q2 b2 ((q.step s2).append p2)
    | lst ds =>
      obtain ⟨a, xs, rfl, h1, _, q⟩ := (PRp.of p1).isLst
      refine ⟨a, xs, rfl, .inr (.inl (.inl h1)), W, env, oas, g1, r1, S.step s1 b1, Post.mono (Post.split q1) fun w H2 ⟨e, g2, r2, b2, s2, p2, q2⟩ => ?_⟩
      exact Post.here (d := ds ++ e) (g := g2) q2 b2 ((q.step s2).append p2)
    | _ => exact q1.elim
theorem fr_star {m : ME} {ms : MA} (h : FrE m) (h2 : FrE ms) : FrE (mStar m ms) := fun env => Fr.bind (h env) fun d => by
  cases d with
  | tup xs => exact Fr.bind (h2 env) fun _ => Fr.ok
  | lst xs => exact Fr.bind (h2 env) fun _ => Fr.ok
  | _ => exact Fr.st
end

/-! ### a new list that all may change -/
section
variable {C : Cst} {r r1 : List Addr} {W : Addr → Prop} {H H1 : Hp} {g : G} {p : Addr}
theorem kp_adopt : Kp r (r ++ [p]) (fun a => a = p ∨ W a) W H H := by
  refine ⟨fun n a h => ?_, fun a h => ?_, fun a o e _ _ _ => e, fun a h => h⟩
  · rw [List.getElem?_append_left (List.getElem?_eq_some_iff.mp h).1]; exact h
  · rcases h with h | h
    · rcases List.mem_append.mp h with h | h
      · exact .inl h
      · exact .inr (.inl (.inl (by simpa using h)))
    · exact .inr (.inl (.inr h))
theorem Bs.adopt {o : GO} (b : Bs C (fun z => z = p ∨ W z) g r H) (hw : ¬ W p) (ho : GOR C (r ++ [p]) W H o p) (hn : o.nc = true) : Bs C W (g ++ [o]) (r ++ [p]) H := by
  have hpr : p ∉ r := fun z => b.dis p z (.inl rfl)
  refine ⟨b.tabs, ?_, fun a ha => ?_, fun a h => b.wtr a (.inr h), fun a ha hw' => ?_, fun a h => b.wnt a (.inr h), (b.objs.keep kp_adopt fun _ _ => rfl).app ho, gnc_app b.gn hn⟩
  · rw [List.nodup_append]
    exact ⟨b.nd, by simp, fun a ha c hc z => by simp at hc; subst hc; subst z; exact hpr ha⟩
  · rcases List.mem_append.mp ha with ha | ha
    · exact b.rtr a ha
    · simp at ha; subst ha; exact b.wtr a (.inl rfl)
  · rcases List.mem_append.mp ha with ha | ha
    · exact b.dis a ha (.inr hw')
    · simp at ha; subst ha; exact hw hw'
theorem Step.adopt (s : Step r r1 H H1) (hp : H p = none) : Step r (r1 ++ [p]) H H1 := by
  refine ⟨fun n a h => ?_, fun a ha => ?_, s.ext, s.dom⟩
  · have := s.pre n a h
    rw [List.getElem?_append_left (List.getElem?_eq_some_iff.mp this).1]; exact this
  · rcases List.mem_append.mp ha with ha | ha
    · exact s.fresh a ha
    · simp at ha; subst ha; exact .inr hp
theorem gr_new (b : Bs C W g r H) : (r ++ [p])[g.length]? = some p := by
  rw [b.objs.len, List.getElem?_append_right (Nat.le_refl _)]
  simp
end
def mGNew (m : Ev → G → R (List D)) : ME := fun env g => (m env g).bind fun ds g1 => if D.ncs ds = true then .ok (.gr g1.length) (g1 ++ [.lst ds]) else .stuck
section
variable {X : Cx} {C : Cst} {Wx : WX}
theorem se_gnew {e : Expr} {m : Ev → G → R (List D)} (h : PE X e (RN C Wx m)) : PE X e (RE C Wx (mGNew m)) := PEm h fun σ H Q h => by
  obtain ⟨W, env, oas, g, r, S, P⟩ := h
  refine ⟨W, env, oas, g, r, S, ?_⟩
  unfold mGNew at P
  revert P
  cases m env g with
  | stuck => exact fun P => P
  | exc c fs g1 => exact fun P => P
  | ok ds g1 =>
    intro P a H' r' b s ha hw ⟨xs, h1, h2, h3⟩
    simp only [R.bind] at P
    split at P
    · rename_i hn
      exact P _ _ (r' ++ [a]) (b.adopt hw (.lst h1 h2 (h3.keep kp_adopt)) hn) (s.adopt ha) (.gr (gr_new b))
    · exact P.elim
/-! ### x[i] of such a list -/
def gIx (g : G) (d i : D) : Option D := match d, i with
  | .gr n, .int k => match g[n]? with
    | some (.lst ds) => atI ds k
    | _ => none
  | _, _ => none
def mGIx (ma mb : ME) : ME := fun env g => (ma env g).bind fun a g1 => (mb env g1).bind fun b g2 => liftO (gIx g2 a b) g2
theorem se_gix {a b : Expr} {pos : Pos} {ma mb : ME} (hu : X.A.units + 1 < cLine) (ha : PE X a (RE C Wx ma)) (hb : PE X b (RE C Wx mb)) (hs : PlainIx b) : PE X (.Subscript a b pos) (RE C Wx (mGIx ma mb)) :=
  PEm (pe_ix (ix_any hu) ha hb hs) fun σ H Q h => by
    obtain ⟨W, env, oas, g, r, S, P⟩ := h
    refine ⟨W, env, oas, g, r, S, Post.mono (Post.split P) fun v H1 ⟨d, g1, r1, b1, s1, p1, q1⟩ => ⟨W, env, oas, g1, r1, S.step s1 b1, Post.mono (Post.split q1) fun w H2 ⟨e, g2, r2, b2, s2, p2, q2⟩ => ?_⟩⟩
    obtain ⟨z, hz, q3⟩ := liftO_some q2
    unfold gIx at hz
    split at hz
    · rename_i n k
      split at hz
      · rename_i ds hk
        have p1' := p1.step s2
        cases p1' with
        | gr h =>
          obtain ⟨a', h1, h2⟩ := b2.objs.get hk
          rw [h] at h1
          cases h1
          cases h2 with
          | lst h hz' q =>
            obtain ⟨u, e1, e2⟩ := atI_rp q hz
            exact .inl (.inl ⟨_, _, _, u, rfl, p2.isInt, .inl (.inl h), e1, q3.here b2 e2⟩)
      · cases hz
    · cases hz
/-! ### x[i] = v -/
def gSet (g : G) (d i v : D) : Option G := match d, i with
  | .gr n, .int k => match g[n]? with
    | some (.lst ds) => match ixN ds.length k with
      | some j => if v.nc = true then some (g.set n (.lst (ds.set j v))) else none
      | none => none
    | _ => none
  | _, _ => none
def mGSet (mo mi mv : ME) : MS := fun env g => (mv env g).bind fun v g1 => (mo env g1).bind fun o g2 => (mi env g2).bind fun i g3 => match gSet g3 o i v with
  | some g4 => .ok (.nx, env) g4
  | none => .stuck
theorem RpL.setn {r : List Addr} {W : Addr → Prop} {H : Hp} {d : D} {v : V} (h : Rp C r W H d v) : ∀ {ds : List D} {vs : List V} (n : Nat), RpL C r W H ds vs → RpL C r W H (ds.set n d) (vs.set n v)
  | _, _, _, .nil => .nil
  | _, _, 0, .cons _ t => .cons h t
  | _, _, n + 1, .cons q t => .cons q (RpL.setn h n t)
theorem ncs_set {v : D} (hv : v.nc = true) : ∀ {ds : List D} (n : Nat), D.ncs ds = true → D.ncs (ds.set n v) = true
  | [], _, h => h
  | d :: ds, 0, h => by
    rw [D.ncs, Bool.and_eq_true] at h
    rw [List.set_cons_zero, D.ncs, hv, h.2]; rfl
  | d :: ds, n + 1, h => by
    rw [D.ncs, Bool.and_eq_true] at h
    rw [List.set_cons_succ, D.ncs, h.1, ncs_set hv n h.2]; rfl
theorem gSet_some {g g4 : G} {d i v : D} (h : gSet g d i v = some g4) : ∃ n k ds j, d = .gr n ∧ i = .int k ∧ g[n]? = some (.lst ds) ∧ ixN ds.length k = some j ∧ v.nc = true ∧ g4 = g.set n (.lst (ds.set j v)) := by
  unfold gSet at h
  split at h
  · split at h
    · rename_i hk
      split at h
      · rename_i hj
        split at h
        · rename_i hv
          cases h
          exact ⟨_, _, _, _, rfl, rfl, hk, hj, hv, rfl⟩
        · cases h
      · cases h
    · cases h
  · cases h
theorem ss_gset {o i value : Expr} {pos pos' : Pos} {mo mi mv : ME} (ho : PE X o (RE C Wx mo)) (hi : PE X i (RE C Wx mi)) (hv : PE X value (RE C Wx mv)) (hs : swapsWithSole [.Subscript o i pos'] value pos.line X.env = pure false := by rfl) (hw : swappedStores [.Subscript o i pos'] value X.env = pure none := by rfl)
    (h1 : (assignEach [.Subscript o i pos'] X.env).map (·.2) = [assign (.Subscript o i pos') X.env] := by rfl)
    (ha : ∀ v, assign (.Subscript o i pos') X.env v = (do
      let ov ← holding [v] (eval o X.env)
      let iv ← holding [v, ov] (eval i X.env)
      standAt pos'
      holding [v, ov, iv] (setItem ov iv v)
      release [v, ov, iv] []) := by intro _; rfl) :
    PS X (.Assign [.Subscript o i pos'] value pos) (RS C Wx (mGSet mo mi mv)) := PSm' (ps_asg hv (pg_sub ho hi set_list ha) hs hw h1) fun En σ H h => by
  obtain ⟨H0, r0, Wo, env, oas, g, r, S, P⟩ := h
  refine ⟨Wf oas Wo, env, oas, g, r, S.sm, Post.mono (PoS.split S.st P) fun v H1 ⟨vd, g1, r1, b1, s1, p1, q1⟩ => ?_⟩
  have S1 := S.step s1 b1
  refine ⟨Wf oas Wo, env, oas, g1, r1, S1.sm, Post.mono (PoS.split S1.st q1) fun o H2 ⟨od, g2, r2, b2, s2, p2, q2⟩ => ?_⟩
  have S2 := S1.step s2 b2
  refine ⟨Wf oas Wo, env, oas, g2, r2, S2.sm, Post.mono (PoS.split S2.st q2) fun i H3 ⟨id, g3, r3, b3, s3, p3, q3⟩ => ?_⟩
  have S3 := S2.step s3 b3
  dsimp only at q3
  split at q3
  · rename_i g4 hg4
    obtain ⟨n, k, ds, j, rfl, rfl, hk, hj, hvn, rfl⟩ := gSet_some hg4
    have p2' := p2.step s3
    have p1' := (p1.step s2).step s3
    cases p2' with
    | @gr _ a hn =>
      obtain ⟨a', h1, h2⟩ := b3.objs.get hk
      rw [hn] at h1
      cases h1
      have hm := List.mem_of_getElem? hn
      cases h2 with
      | @lst _ _ xs h hz q =>
        have st : Step r3 r3 H3 (upd H3 a (.lst (xs.set j v))) := Step.gwrite hm
        have b4 := b3.gput (o := .lst (ds.set j vd)) hn (u := .lst (xs.set j v)) (fun z => nomatch z) (.lst upd_same (by rw [List.length_set]; exact hz) ((RpL.setn p1' j q).step st)) (ncs_set hvn j (gnc_get b3.gn hk))
        exact ⟨a, xs, k, j, rfl, p3.isInt, h, by rw [← q.length]; exact hj, q3 σ _ oas r3 (S3.step st b4) st.kp⟩
  · exact q3.elim
/-- x[i] = v, x an own list -/
def mPutI (j : Nat) (mi mv : ME) : MS := fun env g => match env[j]? with
  | some (.ol ds) => (mv env g).bind fun v g1 => (mi env g1).bind fun i g2 => match i with
    | .int k => match ixN ds.length k with
      | some n => .ok (.nx, env.set j (.ol (ds.set n v))) g2
      | none => .stuck
    | _ => .stuck
  | _ => .stuck
theorem ss_puti {i value : Expr} {pos pos' pn : Pos} {x : Str} {mi mv : ME} (j : Nat) (hN : X.N[j]? = some x) (hvx : Vis X.env.scope x) (hd : (x == ("__debug__" : Str)) = false) (hcd : (x == ("__classdict__" : Str)) = false) (hi : PE X i (RE C Wx mi)) (hv : PE X value (RE C Wx mv)) (hs : swapsWithSole [.Subscript (.Name x pn) i pos'] value pos.line X.env = pure false := by rfl) (hw : swappedStores [.Subscript (.Name x pn) i pos'] value X.env = pure none := by rfl)
    (h1 : (assignEach [.Subscript (.Name x pn) i pos'] X.env).map (·.2) = [assign (.Subscript (.Name x pn) i pos') X.env] := by rfl)
    (ha : ∀ v, assign (.Subscript (.Name x pn) i pos') X.env v = (do
      let ov ← holding [v] (eval (.Name x pn) X.env)
      let iv ← holding [v, ov] (eval i X.env)
      standAt pos'
      holding [v, ov, iv] (setItem ov iv v)
      release [v, ov, iv] []) := by intro _; rfl) :
    PS X (.Assign [.Subscript (.Name x pn) i pos'] value pos) (RS C Wx (mPutI j mi mv)) := PSm' (ps_asg hv (pg_sub (pe_var hN hvx hd hcd) hi set_list ha) hs hw h1) fun En σ H h => by
  obtain ⟨H0, r0, Wo, env, oas, g, r, S, P⟩ := h
  unfold mPutI at P
  split at P
  · rename_i ds e
    refine ⟨Wf oas Wo, env, oas, g, r, S.sm, Post.mono (PoS.split S.st P) fun v H1 ⟨vd, g1, r1, b1, s1, p1, q1⟩ => ?_⟩
    have S1 := S.step s1 b1
    obtain ⟨a, _, _, e2, _, _, _⟩ := own_list S1 e
    refine ⟨_, e2, Wf oas Wo, env, oas, g1, r1, S1.sm, Post.mono (PoS.split S1.st q1) fun i H3 ⟨id, g3, r3, b3, s3, p3, q3⟩ => ?_⟩
    have S3 := S1.step s3 b3
    dsimp only at q3
    split at q3
    · rename_i k
      split at q3
      · rename_i n hj
        obtain ⟨a', xs, e1, e2', e3, hz, q⟩ := own_list S3 e
        rw [e2] at e2'
        cases e2'
        have hw : Wf oas Wo a := .inl (List.mem_of_getElem? e1)
        obtain ⟨S4, k4⟩ := S3.wr (o := .lst (xs.set n v)) e1 e2 (.ol e3 hz q) (fun z => nomatch z) (.ol upd_same (by rw [List.length_set]; exact hz) ((RpL.setn (p1.step s3) n q).keep (Kp.write hw)))
        exact ⟨a, xs, k, n, rfl, p3.isInt, e3, by rw [← q.length]; exact hj, q3 σ _ oas r3 S4 k4⟩
      · exact q3.elim
    · exact q3.elim
  · exact P.elim
end
/-! ### a world of one's own -/
mutual
/-- no shared object, no lambda in it -/
def D.ng : D → Bool
  | .non => true
  | .bl _ => true
  | .int _ => true
  | .str _ => true
  | .lst xs => D.ngs xs
  | .tup xs => D.ngs xs
  | .scr _ => true
  | .dK kvs => D.ngK kvs
  | .dT kvs => D.ngT kvs
  | .gr _ => false
  | .clo _ _ => false
  | .exn _ fs => D.ngF fs
def D.ngs : List D → Bool
  | [] => true
  | d :: ds => D.ng d && D.ngs ds
def D.ngK : List (Key × D) → Bool
  | [] => true
  | (_, d) :: ds => D.ng d && D.ngK ds
def D.ngT : List (List Key × D) → Bool
  | [] => true
  | (_, d) :: ds => D.ng d && D.ngT ds
def D.ngF : List (Str × D) → Bool
  | [] => true
  | (_, d) :: ds => D.ng d && D.ngF ds
end
theorem ngK_eq : ∀ kvs : List (Key × D), D.ngK kvs = D.ngs (kvs.map (·.2))
  | [] => by simp only [D.ngK, List.map_nil, D.ngs]
  | (_, d) :: l => by simp only [D.ngK, List.map_cons, D.ngs, ngK_eq l]
theorem ngT_eq : ∀ kvs : List (List Key × D), D.ngT kvs = D.ngs (kvs.map (·.2))
  | [] => by simp only [D.ngT, List.map_nil, D.ngs]
  | (_, d) :: l => by simp only [D.ngT, List.map_cons, D.ngs, ngT_eq l]
theorem ngF_eq : ∀ kvs : List (Str × D), D.ngF kvs = D.ngs (kvs.map (·.2))
  | [] => by simp only [D.ngF, List.map_nil, D.ngs]
  | (_, d) :: l => by simp only [D.ngF, List.map_cons, D.ngs, ngF_eq l]
/-- what has no shared object in it may be seen from another world: there is nothing in the way at places that are out of r and W -/
structure Kq (r r' : List Addr) (W W' : Addr → Prop) (H : Hp) : Prop where
  nr : ∀ a, H a ≠ none → a ∉ r → ¬ W a → a ∉ r' ∧ ¬ W' a
section
variable {C : Cst} {r r' : List Addr} {W W' : Addr → Prop} {H : Hp}
theorem Kq.at (k : Kq r r' W W' H) {a : Addr} {o : HO} (h : H a = some o) (hr : a ∉ r) (hw : ¬ W a) : a ∉ r' ∧ ¬ W' a := k.nr a (by rw [h]; exact fun z => nomatch z) hr hw
mutual
theorem Rp.seen (k : Kq r r' W W' H) : ∀ {d : D} {v : V}, d.ng = true → Rp C r W H d v → Rp C r' W' H d v
  | _, _, _, .non => .non
  | _, _, _, .bl b => .bl b
  | _, _, _, .int i => .int i
  | _, _, _, .str x => .str x
  | _, _, n, .lst h hz hr hw q => .lst h hz (k.at h hr hw).1 (k.at h hr hw).2 (RpL.seen k (by simpa only [D.ng] using n) q)
  | _, _, n, .tup h hz hr hw q => .tup h hz (k.at h hr hw).1 (k.at h hr hw).2 (RpL.seen k (by simpa only [D.ng] using n) q)
  | _, _, n, .dK h hl hz hr hw q => .dK h hl hz (k.nr _ (Rd.some (Fz.rd h)) hr hw).1 (k.nr _ (Rd.some (Fz.rd h)) hr hw).2 (RpL.seen k (by simpa only [D.ng, ngK_eq] using n) q)
  | _, _, n, .dT h hl hz hr hw q => .dT h hl hz (k.nr _ (Rd.some (Fz.rd h)) hr hw).1 (k.nr _ (Rd.some (Fz.rd h)) hr hw).2 (RpL.seen k (by simpa only [D.ng, ngT_eq] using n) q)
  | _, _, _, .scr h hz hr hw => .scr h hz (k.nr _ (Rd.some h) hr hw).1 (k.nr _ (Rd.some h) hr hw).2
  | _, _, _, .scrK h1 h2 h3 h4 h5 h6 => .scrK h1 h2 h3 h4 h5 h6
  | _, _, _, .exn0 hc h hr hw => .exn0 hc h (k.at h hr hw).1 (k.at h hr hw).2
  | _, _, n, .exn hc h hr hw hd hdr hdw hl q => .exn hc h (k.at h hr hw).1 (k.at h hr hw).2 hd (k.at hd hdr hdw).1 (k.at hd hdr hdw).2 hl (RpL.seen k (by simpa only [D.ng, ngF_eq] using n) q)
  | _, _, n, .gr _ => by simp only [D.ng] at n; cases n
  | _, _, n, .clo _ _ _ _ _ _ _ _ _ _ _ _ _ => by simp only [D.ng] at n; cases n
theorem RpL.seen (k : Kq r r' W W' H) : ∀ {ds : List D} {vs : List V}, D.ngs ds = true → RpL C r W H ds vs → RpL C r' W' H ds vs
  | _, _, _, .nil => .nil
  | _, _, n, .cons h t => by
    simp only [D.ngs, Bool.and_eq_true] at n
    exact .cons (Rp.seen k n.1 h) (RpL.seen k n.2 t)
end
end
/-- the objects made there become values -/
def thaw1 (g : G) : D → Option D
  | .gr n => match g[n]? with
    | some (.lst ds) => if D.ngs ds = true then some (.lst ds) else none
    | some (.dz kvs) => if D.ngs (kvs.map (·.2)) = true then some (.dK kvs) else none
    | _ => none
  | d => if d.ng = true then some d else none
def thawL (g : G) : List D → Option (List D)
  | [] => some []
  | d :: ds => match thaw1 g d, thawL g ds with
    | some e, some es => some (e :: es)
    | _, _ => none
def thaw (g : G) : D → Option D
  | .lst ds => (thawL g ds).map .lst
  | d => thaw1 g d
def mHide (F : List D → G → R D) : List D → G → R D := fun ds g => if D.ngs ds = true then match F ds [] with
  | .ok d g' => match thaw g' d with
    | some d' => .ok d' g
    | none => .stuck
  | .exc c fs g' => if D.ngs (fs.map (·.2)) = true then .exc c fs g else .stuck
  | .stuck => .stuck
  else .stuck
section
variable {C : Cst} {r r' : List Addr} {W W' : Addr → Prop} {H : Hp} {g : G}
theorem thaw1_rp (b : Bs C W' g r' H) (k : Kq r' r W' W H) (fr : ∀ a ∈ r', a ∉ r ∧ ¬ W a) {d e : D} {v : V} (h : Rp C r' W' H d v) (eq : thaw1 g d = some e) : Rp C r W H e v := by
  cases d
  case gr n =>
    simp only [thaw1] at eq
    cases h with
    | gr hn =>
      have hf := fr _ (List.mem_of_getElem? hn)
      split at eq
      · rename_i ds hk
        split at eq
        · rename_i hg
          cases eq
          obtain ⟨a', h1, h2⟩ := b.objs.get hk
          rw [hn] at h1
          cases h1
          cases h2 with
          | lst h hz q => exact .lst h hz hf.1 hf.2 (q.seen k hg)
        · cases eq
      · rename_i kvs hk
        split at eq
        · rename_i hg
          cases eq
          obtain ⟨a', h1, h2⟩ := b.objs.get hk
          rw [hn] at h1
          cases h1
          cases h2 with
          | dz h hl hz q => exact .dK h hl hz hf.1 hf.2 (q.seen k hg)
        · cases eq
      · cases eq
  all_goals
    simp only [thaw1] at eq
    split at eq
    · rename_i hg
      cases eq
      exact h.seen k hg
    · cases eq
theorem thawL_rp (b : Bs C W' g r' H) (k : Kq r' r W' W H) (fr : ∀ a ∈ r', a ∉ r ∧ ¬ W a) : ∀ {ds es : List D} {vs : List V}, RpL C r' W' H ds vs → thawL g ds = some es → RpL C r W H es vs
  | _, _, _, .nil, eq => by simp only [thawL] at eq; cases eq; exact .nil
  | _, _, _, .cons h t, eq => by
    simp only [thawL] at eq
    split at eq
    · rename_i e1 e2
      cases eq
      exact .cons (thaw1_rp b k fr h e1) (thawL_rp b k fr t e2)
    · cases eq
theorem thaw_rp (b : Bs C W' g r' H) (k : Kq r' r W' W H) (fr : ∀ a ∈ r', a ∉ r ∧ ¬ W a) {d e : D} {v : V} (h : Rp C r' W' H d v) (eq : thaw g d = some e) : Rp C r W H e v := by
  cases d
  case lst ds =>
    simp only [thaw, Option.map_eq_some_iff] at eq
    obtain ⟨es, e1, rfl⟩ := eq
    cases h with
    | lst h hz hr hw q => exact .lst h hz (k.at h hr hw).1 (k.at h hr hw).2 (thawL_rp b k fr q e1)
  all_goals
    simp only [thaw] at eq
    exact thaw1_rp b k fr h eq
theorem Bs.hide (b : Bs C W g r H) : Bs C (fun a => W a ∨ a ∈ r) [] [] H where
  tabs := b.tabs
  nd := by simp
  rtr := fun a h => by cases h
  wtr := fun a h => h.elim (b.wtr a) (b.rtr a)
  dis := fun a h => by cases h
  wnt := fun a h o n => by
    rcases h with h | h
    · exact b.wnt a h o n
    · cases n with
      | tup xs => exact b.objs.nt h xs
      | ext φ => exact GOs.noext b.objs h
  objs := .nil
  gn := rfl
theorem Bs.unhide {H' : Hp} {g' : G} (b : Bs C W g r H) (b' : Bs C (fun a => W a ∨ a ∈ r) g' r' H') (s : Step [] r' H H') : Bs C W g r H' where
  tabs := b'.tabs
  nd := b.nd
  rtr := fun a h z => b.rtr a h (s.dom a z)
  wtr := fun a h z => b.wtr a h (s.dom a z)
  dis := b.dis
  wnt := fun a h => b'.wnt a (.inl h)
  objs := by
    refine b.objs.keep (⟨fun _ _ h => h, fun a h => h.elim .inl fun h => .inr (.inl h), fun a o e _ _ no => s.ext a o e (fun z => by cases z) no, s.dom⟩ : Kp r r W W H H') fun a ha => ?_
    obtain ⟨o, h1, h2⟩ := GOs.notb (l := r) b.objs ha
    rw [h1]
    exact s.ext a o h1 (fun z => by cases z) h2
  gn := b.gn
theorem Step.unhide {H' : Hp} (s : Step [] r' H H') : Step r r H H' := ⟨fun _ _ h => h, fun _ h => .inl h, fun a o e _ no => s.ext a o e (fun z => by cases z) no, s.dom⟩
theorem kq_in (b : Bs C W g r H) : Kq r [] W (fun a => W a ∨ a ∈ r) H := ⟨fun a _ hr hw => ⟨(fun z => nomatch z), fun z => z.elim hw hr⟩⟩
theorem kq_out {H' : Hp} {r' : List Addr} : Kq r' r (fun a => W a ∨ a ∈ r) W H' := ⟨fun a _ _ hw => ⟨fun z => hw (.inr z), fun z => hw (.inl z)⟩⟩
theorem sp_hide {n : Nat} {F : List D → G → R D} {vs : List V} {H : Hp} {Q : VK} {E : XK} (h : spOf C n (mHide F) vs H Q E) : spOf C n F vs H Q E := by
  obtain ⟨r, W, g, ds, b, q, hl, Po⟩ := h
  unfold mHide at Po
  split at Po
  · rename_i hg
    refine ⟨[], fun a => W a ∨ a ∈ r, [], ds, b.hide, q.seen (kq_in b) hg, hl, ?_⟩
    have fr : ∀ {r' : List Addr} {H' : Hp}, Step [] r' H H' → ∀ a ∈ r', a ∉ r ∧ ¬ W a := fun {r' H'} s a ha => by
      rcases s.fresh a ha with z | z
      · cases z
      · exact ⟨fun y => b.rtr a y z, fun y => b.wtr a y z⟩
    revert Po
    cases F ds [] with
    | stuck => exact fun Po => Po
    | exc c fs g' =>
      intro Po cl dx H' r' b' s x
      dsimp only at Po
      split at Po
      · rename_i hf
        refine Po cl dx H' r (b.unhide b' s) s.unhide ?_
        obtain ⟨h1, h | ⟨d, h0, h2, h3, xs, h4, h5, h6⟩⟩ := x
        · exact ⟨h1, .inl h⟩
        · exact ⟨h1, .inr ⟨d, h0, fun z => h3 (.inr z), fun z => h3 (.inl z), xs, h4, h5, h6.seen kq_out hf⟩⟩
      · exact Po.elim
    | ok d g' =>
      intro Po v H' r' b' s x
      dsimp only at Po
      split at Po
      · rename_i d' hd
        exact Po v H' r (b.unhide b' s) s.unhide (thaw_rp b' kq_out (fr s) x hd)
      · exact Po.elim
  · exact Po.elim
end
theorem cal_hide {P : Program} {w : World} {base : Heap} {C : Cst} {x : Str} {k : Nat} {ps : List Str} {F : List D → G → R D} (h : Cal P w base C x k ps F) : Cal P w base C x k ps (mHide F) := by
  obtain ⟨f, fd, F', h⟩ := h
  exact ⟨f, fd, ⟨fun vs H Q E z => F'.len vs H Q E (sp_hide z), fun A out s H args us vs Q E hr e0 hb r z => F'.run A out s H args us vs Q E hr e0 hb r (sp_hide z)⟩, h⟩
theorem fr_hide {F : List D → G → R D} : FrF (mHide F) := fun ds g => by
  unfold mHide
  split
  · cases F ds [] with
    | stuck => rfl
    | exc c fs g' => dsimp only; split <;> rfl
    | ok d g' => dsimp only; split <;> rfl
  · rfl
end GT
namespace GT
open PySem PySem.Spec PyProof.Rows L2 RZ
theorem fr_puti {j : Nat} {mi mv : ME} (h1 : FrE mi) (h2 : FrE mv) : FrE (mPutI j mi mv) := fun env => by
  unfold mPutI
  cases env[j]? with
  | none => exact Fr.st
  | some s =>
    cases s with
    | ol ds =>
      refine Fr.bind (h2 env) fun v => Fr.bind (h1 env) fun i => ?_
      cases i with
      | int k => dsimp only; cases ixN ds.length k with
        | none => exact Fr.st
        | some n => exact Fr.ok
      | _ => exact Fr.st
    | _ => exact Fr.st
end GT

/-! GtXb: texts: split, partition, join, str, int of a text. -/
namespace GT
open PySem PySem.Spec PyProof.Rows L2 RZ
/-- o.m(e), o a text -/
def mM1 (f : Str → D → Option D) (mo me : ME) : ME := fun env g => (mo env g).bind fun a g1 => match a with
  | .str z => (me env g1).bind fun b g2 => liftO (f z b) g2
  | _ => .stuck
def M1S (C : Cst) (f : Str → D → Option D) (r2 : V → List V → Hp → VK → Prop) : Prop := ∀ (Wx : WX) (W : Addr → Prop) (g : G) (r : List Addr) (σ : L2.St) (H : Hp) (z : Str) (b d : D) (y : V) (Q : VK), f z b = some d → Bs C W g r H → PRp C r W H b y → Post C Wx W r σ H (RlE C W) Q (.ok d g) → r2 (.str z) [y] H Q
section
variable {X : Cx} {C : Cst} {Wx : WX}
theorem re_m1 {f : Str → D → Option D} {r2 : V → List V → Hp → VK → Prop} {mo me : ME} (hs : M1S C f r2) {σ : L2.St} {H : Hp} {Q : VK} (h : RE C Wx (mM1 f mo me) σ H Q) : tM1 r2 (RP C Wx mo) (RP C Wx me) σ H Q := by
  obtain ⟨W, env, oas, g, r, S, P⟩ := h
  refine ⟨W, env, oas, g, r, S, Post.mono (Post.split P) fun v H1 ⟨d, g1, r1, b1, s1, p1, q1⟩ => ?_⟩
  cases d with
  | str z =>
    have := p1.isStr
    subst this
    refine ⟨⟨z, rfl⟩, W, env, oas, g1, r1, S.step s1 b1, Post.mono (Post.split q1) fun w H2 ⟨e, g2, r2, b2, s2, p2, q2⟩ => ?_⟩
    obtain ⟨d', hd, q3⟩ := liftO_some q2
    exact hs _ _ _ _ _ _ z e d' w Q hd b2 p2 q3
  | _ => exact q1.elim
theorem fr_m1 {f : Str → D → Option D} {mo me : ME} (h1 : FrE mo) (h2 : FrE me) : FrE (mM1 f mo me) := fun env => Fr.bind (h1 env) fun d => by
  cases d with
  | str z => exact Fr.bind (h2 env) fun _ => Fr.lift
  | _ => exact Fr.st
theorem strs_up {r : List Addr} {W : Addr → Prop} {H : Hp} : ∀ ys : List Str, RpL C r W H (ys.map D.str) (ys.map V.str)
  | [] => .nil
  | y :: ys => .cons (.str y) (strs_up ys)
def D.strs : List D → Option (List Str)
  | [] => some []
  | .str i :: ds => (D.strs ds).map (i :: ·)
  | _ :: _ => none
theorem strs_rp {r : List Addr} {W : Addr → Prop} {H : Hp} : ∀ {ds : List D} {vs : List V} {ns : List Str}, RpL C r W H ds vs → D.strs ds = some ns → vs = ns.map V.str
  | _, _, _, .nil, e => by simp only [D.strs] at e; cases e; rfl
  | _, _, _, .cons (d := d) (ds := ds) h t, e => by
    cases d with
    | str i =>
      simp only [D.strs, Option.map_eq_some_iff] at e
      obtain ⟨ns, e1, rfl⟩ := e
      rw [h.isStr, strs_rp t e1]
      rfl
    | _ => simp [D.strs] at e
def fSplit (z : Str) : D → Option D
  | .str s => if (s.length == 0) = false ∧ z.length ≤ 1000000 ∧ (Txt.split z s).length ≤ 1000000 then some (.lst ((Txt.split z s).map .str)) else none
  | _ => none
theorem ms_split : M1S C fSplit (fun x xs H Q => ∃ a b, x = .str a ∧ xs = [.str b] ∧ (b.length == 0) = false ∧ a.length + 2 ≤ sizeLine ∧ rNewStrs (Txt.split a b) H Q) := fun Wx W g r σ H z b d y Q e bs p P => by
  unfold fSplit at e
  split at e
  · split at e
    · rename_i hl
      cases e
      have := p.isStr
      subst this
      exact ⟨_, _, rfl, rfl, hl.1, by rw [sizeLine_eq]; omega, fun q hq => P _ _ r (bs.upd hq) (Step.upd hq) (Rp.newL bs hq (by rw [List.length_map]; exact mil hl.2.2) (strs_up _))⟩
    · cases e
  · cases e
def fPart (z : Str) : D → Option D
  | .str s => if (s.length == 0) = false ∧ z.length ≤ 1000000 then some (.tup [.str (Txt.partition z s).1, .str (Txt.partition z s).2.1, .str (Txt.partition z s).2.2]) else none
  | _ => none
theorem ms_part : M1S C fPart (fun x xs H Q => ∃ a b, x = .str a ∧ xs = [.str b] ∧ (b.length == 0) = false ∧ a.length ≤ sizeLine ∧
      ∀ p, H p = none → Q (.ref p) (upd H p (.tup [.str (Txt.partition a b).1, .str (Txt.partition a b).2.1, .str (Txt.partition a b).2.2]))) := fun Wx W g r σ H z b d y Q e bs p P => by
  unfold fPart at e
  split at e
  · split at e
    · rename_i hl
      cases e
      have := p.isStr
      subst this
      exact ⟨_, _, rfl, rfl, hl.1, mil hl.2, fun q hq => P _ _ r (bs.upd hq) (Step.upd hq) (Rp.newT bs hq (by show 3 ≤ sizeLine; decide) (.cons (.str _) (.cons (.str _) (.cons (.str _) .nil))))⟩
    · cases e
  · cases e
def fJoin (z : Str) : D → Option D
  | .lst ds => match D.strs ds with
    | some ys => if (ys.map (·.length)).sum + ys.length * z.length ≤ 16777216 then some (.str (Txt.join z ys)) else none
    | none => none
  | _ => none
theorem ms_join : M1S C fJoin (fun x xs H Q => ∃ a p, ∃ ys : List Str, x = .str a ∧ xs = [.ref p] ∧ (SqL X.K H p (ys.map V.str) ∨ SqT X.K H p (ys.map V.str)) ∧ (ys.map (·.length)).sum + ys.length * a.length ≤ 16777216 ∧ Q (.str (Txt.join a ys)) H) := fun Wx W g r σ H z b d y Q e bs p P => by
  unfold fJoin at e
  split at e
  · split at e
    · rename_i ys hy
      split at e
      · rename_i hl
        cases e
        obtain ⟨a, us, rfl, h1, _, q1⟩ := p.isLst
        have eu := strs_rp q1 hy
        subst eu
        exact ⟨_, a, ys, rfl, rfl, .inl (.inl (.inl h1)), hl, P.here bs (.str _)⟩
      · cases e
    · cases e
  · cases e
theorem se_split {o e : Expr} {apos pos : Pos} {mo me : ME} (ho : PE X o (RP C Wx mo)) (he : PE X e (RP C Wx me)) (hs : starEach [e] X.env = [(false, eval e X.env)] := by rfl) (hbase : attributeBase o "split" X.env (eval o X.env) = eval o X.env := by rfl) (hline : (apos.endLine == pos.line) = true := by rfl) :
    PE X (.Call (.Attribute o "split" apos) [e] [] pos) (RE C Wx (mM1 fSplit mo me)) := PEm (pe_split ho he hs hbase hline) fun _ _ _ h => re_m1 ms_split h
theorem se_part {o e : Expr} {apos pos : Pos} {mo me : ME} (ho : PE X o (RP C Wx mo)) (he : PE X e (RP C Wx me)) (hs : starEach [e] X.env = [(false, eval e X.env)] := by rfl) (hbase : attributeBase o "partition" X.env (eval o X.env) = eval o X.env := by rfl) (hline : (apos.endLine == pos.line) = true := by rfl) :
    PE X (.Call (.Attribute o "partition" apos) [e] [] pos) (RE C Wx (mM1 fPart mo me)) := PEm (pe_partition ho he hs hbase hline) fun _ _ _ h => re_m1 ms_part h
theorem se_join {o e : Expr} {apos pos : Pos} {mo me : ME} (ho : PE X o (RP C Wx mo)) (he : PE X e (RP C Wx me)) (hs : starEach [e] X.env = [(false, eval e X.env)] := by rfl) (hbase : attributeBase o "join" X.env (eval o X.env) = eval o X.env := by rfl) (hline : (apos.endLine == pos.line) = true := by rfl) :
    PE X (.Call (.Attribute o "join" apos) [e] [] pos) (RE C Wx (mM1 fJoin mo me)) := PEm (pe_join ho he hs hbase hline) fun _ _ _ h => re_m1 (ms_join (X := X)) h
/-- str of an int, of a text -/
def fStr1 : List D → Option D
  | [.int i] => if i.natAbs.log2 < 1920 then some (.str (toString i)) else none
  | [.str z] => some (.str z)
  | _ => none
def rStr1 : List V → Hp → VK → Prop := fun xs H Q => (∃ i, xs = [.int i] ∧ i.natAbs.log2 < 1920 ∧ Q (.str (toString i)) H) ∨ ∃ a, xs = [.str a] ∧ Q (.str a) H
theorem call_str1 : CallR X (.type "str") rStr1 := call_str_int.or SkE.call_str_str
theorem cs_str1 : CallS C fStr1 rStr1 := fun Wx W g r σ H ds d xs Q e b p z => by
  unfold fStr1 at e
  split at e
  · split at e
    · rename_i hl
      cases e
      obtain ⟨v, rfl, p'⟩ := p.one
      exact .inl ⟨_, by rw [p'.isInt], hl, z.here b (.str _)⟩
    · cases e
  · cases e
    obtain ⟨v, rfl, p'⟩ := p.one
    exact .inr ⟨_, by rw [p'.isStr], z.here b (.str _)⟩
  · cases e
/-- int of a text too -/
def fIntT : List D → Option D
  | [.str z] => match PySem.intText? z with
    | some n => if z.length ≤ 640 then some (.int n) else none
    | none => none
  | ds => fInt1 ds
def rIntT : List V → Hp → VK → Prop := fun xs H Q => ((∃ i, xs = [.int i] ∧ Q (.int i) H) ∨ ∃ k, xs = [.bl k] ∧ Q (.int (if k then 1 else 0)) H) ∨ ∃ a n, xs = [.str a] ∧ PySem.intText? a = some n ∧ a.length ≤ 640 ∧ Q (.int n) H
theorem call_intT : CallR X (.type "int") rIntT := call_int1.or call_int_str
theorem cs_intT : CallS C fIntT rIntT := fun Wx W g r σ H ds d xs Q e b p z => by
  unfold fIntT at e
  split at e
  · split at e
    · rename_i hn
      split at e
      · rename_i hl
        cases e
        obtain ⟨v, rfl, p'⟩ := p.one
        exact .inr ⟨_, _, by rw [p'.isStr], hn, hl, z.here b (.int _)⟩
      · cases e
    · cases e
  · exact .inl (cs_int1 Wx W g r σ H ds d xs Q e b p z)
end
end GT

/-! GtXc: instances of the text's own classes: made, asked, written. -/
namespace GT
open PySem PySem.Spec PyProof.Rows L2 RZ
theorem RoomG.make {k : Nat} {A : Around} (r : RoomG (k + 1) A) (C : Addr) (us : List Value) (kw : List (Str × Value)) : RoomG k (A.under (.builtin "type.__call__" ⟨.ref C :: us, kw⟩)) := ⟨r.toRoom.make C us kw, r.gd⟩
theorem RoomG.in1 {k : Nat} {A : Around} (r : RoomG (k + 1) A) : RoomG k A.in1 := ⟨r.toRoom.in1, r.gd⟩
/-! ### the calls, by the layer's own steps -/
def tMethG (C : Addr) (m : Str) (sp : Sp) (E : L2.St → XK) (ta : TE) (t : TA) : TE := fun σ H Q => ta σ H fun x H1 => ∃ a dx fs, x = .ref a ∧ H1 a = some (.ins C dx fs) ∧ fs.lookup m = none ∧ t σ H1 fun vs H2 => sp (.ref a :: vs) H2 Q (E σ)
def tMkG (C : Addr) (sp : Sp) (E : L2.St → XK) (t : TA) : TE := fun σ H Q => t σ H fun vs H1 => ∀ x dx, H1 x = none → H1 dx = none → dx ≠ x → sp (.ref x :: vs) (upd (upd H1 dx (.own x)) x (.ins C dx [])) (fun v H2 => v = .non ∧ Q (.ref x) H2) (E σ)
def tPropG (C : Addr) (sp : Sp) (E : L2.St → XK) (ta : TE) : TE := fun σ H Q => ta σ H fun x H1 => ∃ a dx fs, x = .ref a ∧ H1 a = some (.ins C dx fs) ∧ sp [.ref a] H1 Q (E σ)
section
variable {X : Cx} {CX : CXT} {k : Nat} {f C : Addr} {fd : FuncData} {ps : List Str} {sp : Sp} {E : L2.St → XK} {x m : Str} {p pos apos : Pos} {e o : Expr} {es : List Expr} {t : TA} {ta : TE}
theorem pe_methG {pl : Sem Bool} (ho : PE X o ta) (c : L2.Cls X.K C) (hm : Meth X.K C m f) (F : FnG X.prog X.w X.K X.mg X.base CX k f fd ps sp) (hr : RoomG k X.A) (hb : Binds X.K fd ps []) (hx : ∀ σ, PassesAt CX X σ (E σ)) (ha : PA X (e :: es) t)
    (hst : starEach (e :: es) X.env = (false, eval e X.env) :: starEach es X.env := by rfl) (hpl : (backTo pos (starEach es X.env)).any (·.1) = false := by rfl)
    (ht : eval (.Call (.Attribute o m apos) (e :: es) [] pos) X.env = (do
      let ov ← eval o X.env
      standAt apos.atName
      let (f, first) ← holding [ov] (getMethod ov m pl)
      callWith pos f first (backTo pos (starEach (e :: es) X.env)) (backToKw pos (keywordEach [] X.env))) := by rfl) :
    PE X (.Call (.Attribute o m apos) (e :: es) [] pos) (tMethG C m sp E ta t) := by
  refine ⟨fun pins s σ H Q I hyp => PySem.W.methodCall_KW (pl := pl) (thn (ho.run pins s σ H _ I hyp) fun u s1 ⟨x, H1, I1, rx, a, dx, fs, ex, ea, l, q⟩ => ?_) ht⟩
  cases ex
  cases (show u = Value.ref a from rx)
  refine getmeth_ok I1 ea c hm l (PySem.W.callWith_K (first := [.ref a]) (h₀ := X.base) I.ok.mod.kin hm.kp (thn (ha.run pos pins s1 σ H1 _ I1 q) fun us s2 ⟨vs, H2, I2, r, q2⟩ => ⟨I2.kIn, ?_⟩) hst hpl)
  exact run_fnG (us := .ref a :: us) (vs := .ref a :: vs) F hr hb (hx σ) I2 (.cons rfl r) q2
theorem pe_methG0 {pl : Sem Bool} (ho : PE X o ta) (c : L2.Cls X.K C) (hm : Meth X.K C m f) (F : FnG X.prog X.w X.K X.mg X.base CX k f fd ps sp) (hr : RoomG k X.A) (hb : Binds X.K fd ps []) (hx : ∀ σ, PassesAt CX X σ (E σ))
    (ht : eval (.Call (.Attribute o m apos) [] [] pos) X.env = (do
      let ov ← eval o X.env
      standAt apos.atName
      let (f, first) ← holding [ov] (getMethod ov m pl)
      callWith pos f first (backTo pos (starEach [] X.env)) (backToKw pos (keywordEach [] X.env))) := by rfl) :
    PE X (.Call (.Attribute o m apos) [] [] pos) (tMethG C m sp E ta tNil) := by
  refine ⟨fun pins s σ H Q I hyp => PySem.W.methodCall_KW (pl := pl) (thn (ho.run pins s σ H _ I hyp) fun u s1 ⟨x, H1, I1, rx, a, dx, fs, ex, ea, l, q⟩ => ?_) ht⟩
  cases ex
  cases (show u = Value.ref a from rx)
  exact getmeth_ok I1 ea c hm l (PySem.W.callWith_K0 (first := [.ref a]) I1.kIn hm.kp (run_fnG (us := [.ref a]) (vs := [.ref a]) F hr hb (hx σ) I1 (.cons rfl .nil) q))
theorem run_mkG {pins : List (Addr × Obj)} {σ : L2.St} {H : Hp} {s : Shared} {Q : VK} {us : List Value} {vs : List V} (M : L2.Mk X.K C f) (F : FnG X.prog X.w X.K X.mg X.base CX k f fd ps sp) (hr : RoomG (k + 1) X.A) (hb : Binds X.K fd ps []) (hx : PassesAt CX X σ (E σ)) (I : Inv X pins σ H s) (r : Vals vs us)
    (hyp : ∀ x dx, H x = none → H dx = none → dx ≠ x → sp (.ref x :: vs) (upd (upd H dx (.own x)) x (.ins C dx [])) (fun v H2 => v = .non ∧ Q (.ref x) H2) (E σ)) : wpAny (model X.prog X.w) X.A (call (.ref C) us) (EP X pins σ Q) X.xe s := by
  have hq := hyp (s.heap.objs.size + 1) s.heap.objs.size (I.hok.fresh (Nat.le_succ _)) (I.hok.fresh (Nat.le_refl _)) (Nat.ne_of_lt (Nat.lt_succ_self _))
  have J := Inv.made (C := C) I
  have rr : Vals (V.ref (s.heap.objs.size + 1) :: vs) (Value.ref (s.heap.objs.size + 1) :: us) := .cons rfl r
  have hl : ((Value.ref (s.heap.objs.size + 1) :: us) ++ []).length = ps.length := by
    rw [List.append_nil, ← rr.length]
    exact F.len _ _ _ _ hq
  have bn := hb { s with heap := (s.heap.push PySem.W.emptyDict).push (PySem.W.instObj C s.heap.objs.size) } (Value.ref (s.heap.objs.size + 1) :: us) J.kIn hl
  rw [List.append_nil] at bn
  refine wpAny_call (make_map (f := f) I.kIn M.makes M.init (beq_iff_eq.mp M.fn) (codeAny_mono (F.run _ X.stack _ _ ⟨Value.ref (s.heap.objs.size + 1) :: us, []⟩ _ _ _ (E σ) (hr.make C us []) (J.env0.make C us []) bn rr hq) fun out s' hout => ?_))
  match out, hout with
  | .error e, hout => exact hx pins _ _ e s' J hout
  | .ok (.ret u), hout =>
    obtain ⟨v, H', I3, rv, ev, q3⟩ := J.after hout
    cases ev
    exact ⟨rv, ⟨V.ref (s.heap.objs.size + 1), H', I3, rfl, q3⟩⟩
theorem pe_mkG (M : L2.Mk X.K C f) (F : FnG X.prog X.w X.K X.mg X.base CX k f fd ps sp) (hr : RoomG (k + 1) X.A) (hg : Gl X x) (hm : X.mg x = some (.ref C)) (hb : Binds X.K fd ps []) (hx : ∀ σ, PassesAt CX X σ (E σ)) (ha : PA X (e :: es) t) (hdb : (x == ("__debug__" : Str)) = false := by decide)
    (he : starEach (e :: es) X.env = (false, eval e X.env) :: starEach es X.env := by rfl) (hpl : (backTo pos (starEach es X.env)).any (·.1) = false := by rfl) : PE X (.Call (.Name x p) (e :: es) [] pos) (tMkG C sp E t) := by
  refine ⟨fun pins s σ H Q I hyp => wpAny_Call_Name_kw (ld_glob I hg hm ?_ hdb)⟩
  exact PySem.W.callWith_K (h₀ := X.base) I.ok.mod.kin M.kp (thn (ha.run pos pins s σ H _ I hyp) fun us s1 ⟨vs, H1, I1, r, q⟩ => ⟨I1.kIn, run_mkG M F hr hb (hx σ) I1 r q⟩) he hpl
end
/-! ### the data -/
def insAt (g : G) (d : D) (c : Str) : Option (List (Str × D)) := match d with
  | .gr n => match g[n]? with
    | some (.ins c' fs) => if c' = c then some fs else none
    | _ => none
  | _ => none
def putS (f : Str) (v : D) : List (Str × D) → List (Str × D)
  | [] => [(f, v)]
  | (g, x) :: r => if g = f then (g, v) :: r else (g, x) :: putS f v r
section
variable {C : Cst} {r : List Addr} {W : Addr → Prop} {H : Hp}
theorem insAt_rp {g : G} {d : D} {v : V} {c : Str} {cl : Addr} {fs : List (Str × D)} (b : Bs C W g r H) (h : Rp C r W H d v) (hc : C.mg c = some (.ref cl)) (e : insAt g d c = some fs) :
    ∃ n a dx xs, d = .gr n ∧ v = .ref a ∧ r[n]? = some a ∧ g[n]? = some (.ins c fs) ∧ H a = some (.ins cl dx xs) ∧ fs.map (·.1) = xs.map (·.1) ∧ RpL C r W H (fs.map (·.2)) (xs.map (·.2)) := by
  unfold insAt at e
  split at e
  · rename_i n
    split at e
    · rename_i c' fs' hk
      split at e
      · rename_i hcc
        subst hcc
        cases e
        cases h with
        | gr h =>
          obtain ⟨a', h1, h2⟩ := b.objs.get hk
          rw [h] at h1
          cases h1
          cases h2 with
          | ins h' hl hc' q =>
            rw [hc] at hc'
            cases hc'
            exact ⟨n, _, _, _, rfl, rfl, h, hk, h', hl, q⟩
      · cases e
    · cases e
  · cases e
theorem look_some {f : Str} : ∀ {fs : List (Str × D)} {xs : List (Str × V)} {d : D}, fs.map (·.1) = xs.map (·.1) → RpL C r W H (fs.map (·.2)) (xs.map (·.2)) → fs.lookup f = some d → ∃ v, xs.lookup f = some v ∧ Rp C r W H d v
  | [], _, _, _, _, e => by simp at e
  | _ :: _, [], _, h, _, _ => by simp at h
  | (a, d0) :: fs, (b, v0) :: xs, d, h, q, e => by
    simp only [List.map_cons, List.cons.injEq] at h
    obtain ⟨rfl, h⟩ := h
    cases q with
    | cons q1 q2 =>
      rw [List.lookup_cons] at e ⊢
      split at e
      · rename_i hb
        cases e
        exact ⟨_, rfl, q1⟩
      · rename_i hb
        exact look_some h q2 e
theorem look_none {f : Str} : ∀ {fs : List (Str × D)} {xs : List (Str × V)}, fs.map (·.1) = xs.map (·.1) → fs.lookup f = none → xs.lookup f = none
  | [], [], _, _ => rfl
  | [], _ :: _, h, _ => by simp at h
  | _ :: _, [], h, _ => by simp at h
  | (a, d0) :: fs, (b, v0) :: xs, h, e => by
    simp only [List.map_cons, List.cons.injEq] at h
    obtain ⟨rfl, h⟩ := h
    rw [List.lookup_cons] at e ⊢
    split at e
    · cases e
    · rename_i hb
      exact look_none h e
theorem putS_rp {f : Str} {d : D} {v : V} (h : Rp C r W H d v) : ∀ {fs : List (Str × D)} {xs : List (Str × V)}, fs.map (·.1) = xs.map (·.1) → RpL C r W H (fs.map (·.2)) (xs.map (·.2)) → (putS f d fs).map (·.1) = (putF f v xs).map (·.1) ∧ RpL C r W H ((putS f d fs).map (·.2)) ((putF f v xs).map (·.2))
  | [], [], _, _ => ⟨rfl, .cons h .nil⟩
  | [], _ :: _, e, _ => by simp at e
  | _ :: _, [], e, _ => by simp at e
  | (a, d0) :: fs, (b, v0) :: xs, e, q => by
    simp only [List.map_cons, List.cons.injEq] at e
    obtain ⟨rfl, e⟩ := e
    cases q with
    | cons q1 q2 =>
      unfold putS putF
      split
      · exact ⟨by rw [List.map_cons, List.map_cons, e], .cons h q2⟩
      · obtain ⟨i1, i2⟩ := putS_rp h e q2
        exact ⟨by rw [List.map_cons, List.map_cons, i1], .cons q1 i2⟩
theorem putS_nc {f : Str} {d : D} (hd : d.nc = true) : ∀ {fs : List (Str × D)}, D.ncs (fs.map (·.2)) = true → D.ncs ((putS f d fs).map (·.2)) = true
  | [], _ => by simp [putS, D.ncs, hd]
  | (a, d0) :: fs, h => by
    rw [List.map_cons, D.ncs, Bool.and_eq_true] at h
    unfold putS
    split
    · rw [List.map_cons, D.ncs, hd, h.2]; rfl
    · rw [List.map_cons, D.ncs, h.1, putS_nc hd h.2]; rfl
end
/-! ### o.f -/
def mFld (c f : Str) (m : ME) : ME := fun env g => (m env g).bind fun d g1 => match insAt g1 d c with
  | some fs => liftO (fs.lookup f) g1
  | none => .stuck
/-- what is known of a class -/
structure ObC (C : Cst) (c : Str) (cl : Addr) : Prop where
  mg : C.mg c = some (.ref cl)
  cls : L2.Cls C.K cl
section
variable {X : Cx} {C : Cst} {Wx : WX}
theorem se_fld {e : Expr} {c f : Str} {cl : Addr} {pos : Pos} {m : ME} (hK : C.K = X.K) (O : ObC C c cl) (hn : NoAttr C.K cl f) (he : PE X e (RE C Wx m)) (hb : attributeBase e f X.env (eval e X.env) = eval e X.env := by rfl) : PE X (.Attribute e f pos) (RE C Wx (mFld c f m)) :=
  PEm (pe_fld he hb) fun σ H Q h => by
    obtain ⟨W, env, oas, g, r, S, P⟩ := h
    refine ⟨W, env, oas, g, r, S, Post.mono (Post.split P) fun v H1 ⟨d, g1, r1, b1, s1, p1, q1⟩ => ?_⟩
    dsimp only at q1
    split at q1
    · rename_i fs hf
      obtain ⟨z, hz, q2⟩ := liftO_some q1
      obtain ⟨n, a, dx, xs, rfl, rfl, e1, e2, e3, e4, e5⟩ := insAt_rp b1 p1 O.mg hf
      obtain ⟨w, w1, w2⟩ := look_some e4 e5 hz
      exact ⟨a, cl, dx, xs, w, rfl, e3, hK ▸ O.cls, hK ▸ hn, w1, q2.here b1 w2⟩
    · exact q1.elim
/-! ### o.f = v -/
def insSet (g : G) (d : D) (c f : Str) (v : D) : Option G := match d with
  | .gr n => match insAt g d c with
    | some fs => if fs.length < 1000 ∧ v.nc = true then some (g.set n (.ins c (putS f v fs))) else none
    | none => none
  | _ => none
theorem insSet_some {g g2 : G} {d : D} {c f : Str} {v : D} (h : insSet g d c f v = some g2) : ∃ n fs, d = .gr n ∧ insAt g d c = some fs ∧ fs.length < 1000 ∧ v.nc = true ∧ g2 = g.set n (.ins c (putS f v fs)) := by
  unfold insSet at h
  split at h
  · split at h
    · rename_i hf
      split at h
      · rename_i hl
        cases h
        exact ⟨_, _, rfl, hf, hl.1, hl.2, rfl⟩
      · cases h
    · cases h
  · cases h
theorem insSet_go {g g2 : G} {d dv : D} {c f : Str} {cl : Addr} {r : List Addr} {W : Addr → Prop} {H : Hp} {v w : V} (b : Bs C W g r H) (hd : Rp C r W H d v) (hv : Rp C r W H dv w) (O : ObC C c cl) (h : insSet g d c f dv = some g2) :
    ∃ a dx xs, v = .ref a ∧ H a = some (.ins cl dx xs) ∧ xs.length < 1000 ∧ Bs C W g2 r (upd H a (.ins cl dx (putF f w xs))) ∧ Step r r H (upd H a (.ins cl dx (putF f w xs))) := by
  obtain ⟨n, fs, rfl, hf, hl, hn, rfl⟩ := insSet_some h
  obtain ⟨n', a, dx, xs, e0, rfl, e1, e2, e3, e4, e5⟩ := insAt_rp b hd O.mg hf
  cases e0
  have hm := List.mem_of_getElem? e1
  have hlx : xs.length < 1000 := by
    have := congrArg List.length e4
    rw [List.length_map, List.length_map] at this
    omega
  obtain ⟨k1, k2⟩ := putS_rp (f := f) hv e4 e5
  have st : Step r r H (upd H a (.ins cl dx (putF f w xs))) := Step.gwrite hm
  exact ⟨a, dx, xs, rfl, e3, hlx, b.gput (o := .ins c (putS f dv fs)) e1 (u := .ins cl dx (putF f w xs)) (fun z => nomatch z) (.ins upd_same k1 O.mg (k2.step st)) (putS_nc hn (gnc_get b.gn e2)), st⟩
def mSetF (c f : Str) (mo mv : ME) : MS := fun env g => (mv env g).bind fun v g1 => (mo env g1).bind fun o g2 => match insSet g2 o c f v with
  | some g3 => .ok (.nx, env) g3
  | none => .stuck
theorem ss_fld {o value : Expr} {c f : Str} {cl : Addr} {pos pos' : Pos} {mo mv : ME} (hK : C.K = X.K) (O : ObC C c cl) (hn : NoAttr C.K cl f) (ho : PE X o (RE C Wx mo)) (hv : PE X value (RE C Wx mv)) (hs : swapsWith value (some (.Attribute o f pos')) pos.line X.env = pure false := by rfl) :
    PS X (.Assign [.Attribute o f pos'] value pos) (RS C Wx (mSetF c f mo mv)) := PSm' (ps_fld ho hv hs) fun En σ H h => by
  obtain ⟨H0, r0, Wo, env, oas, g, r, S, P⟩ := h
  refine ⟨Wf oas Wo, env, oas, g, r, S.sm, Post.mono (PoS.split S.st P) fun v H1 ⟨vd, g1, r1, b1, s1, p1, q1⟩ => ?_⟩
  have S1 := S.step s1 b1
  refine ⟨Wf oas Wo, env, oas, g1, r1, S1.sm, Post.mono (PoS.split S1.st q1) fun o H2 ⟨od, g2, r2, b2, s2, p2, q2⟩ => ?_⟩
  have S2 := S1.step s2 b2
  dsimp only at q2
  split at q2
  · rename_i g3 hg
    obtain ⟨a, dx, xs, rfl, e1, e2, b3, st⟩ := insSet_go b2 p2 (p1.step s2) O hg
    exact ⟨a, cl, dx, xs, rfl, e1, hK ▸ O.cls, hK ▸ hn, e2, q2 σ _ oas r2 (S2.step st b3) st.kp⟩
  · exact q2.elim
/-- o.f += v, ints -/
def mAugF (c f : Str) (mo mv : ME) : MS := fun env g => (mo env g).bind fun o g1 => match insAt g1 o c with
  | some fs => match fs.lookup f with
    | some (.int i) => (mv env g1).bind fun v g2 => match v with
      | .int j => match insSet g2 o c f (.int (i + j)) with
        | some g3 => .ok (.nx, env) g3
        | none => .stuck
      | _ => .stuck
    | _ => .stuck
  | none => .stuck
theorem ss_fldaug {o value : Expr} {c f : Str} {cl : Addr} {tpos pos : Pos} {mo mv : ME} (hK : C.K = X.K) (O : ObC C c cl) (hn : NoAttr C.K cl f) (ho : PE X o (RE C Wx mo)) (hv : PE X value (RE C Wx mv)) :
    PS X (.AugAssign (.Attribute o f tpos) .Add value pos) (RS C Wx (mAugF c f mo mv)) := PSm' (ps_fldaug ho hv in_add) fun En σ H h => by
  obtain ⟨H0, r0, Wo, env, oas, g, r, S, P⟩ := h
  refine ⟨Wf oas Wo, env, oas, g, r, S.sm, Post.mono (PoS.split S.st P) fun o H1 ⟨od, g1, r1, b1, s1, p1, q1⟩ => ?_⟩
  have S1 := S.step s1 b1
  dsimp only at q1
  split at q1
  · rename_i fs hf
    split at q1
    · rename_i i hi
      obtain ⟨n, a, dx, xs, rfl, rfl, e1, e2, e3, e4, e5⟩ := insAt_rp b1 p1 O.mg hf
      obtain ⟨w, w1, w2⟩ := look_some e4 e5 hi
      refine ⟨a, cl, dx, xs, w, rfl, e3, hK ▸ O.cls, hK ▸ hn, w1, Wf oas Wo, env, oas, g1, r1, S1.sm, Post.mono (PoS.split S1.st q1) fun y H2 ⟨yd, g2, r2, b2, s2, p2, q2⟩ => ?_⟩
      have S2 := S1.step s2 b2
      dsimp only at q2
      split at q2
      · rename_i j
        split at q2
        · rename_i g3 hg
          obtain ⟨a', dx', xs', ea, e1', e2', b3, st⟩ := insSet_go b2 (p1.step s2) (.int (i + j)) O hg
          cases ea
          exact ⟨i, j, w2.isInt, p2.isInt, dx', xs', e1', e2', q2 σ _ oas r2 (S2.step st b3) st.kp⟩
        · exact q2.elim
      · exact q2.elim
    · exact q1.elim
  · exact q1.elim
/-! ### o.m(..) -/
def mMeth (c m : Str) (n : Nat) (F : List D → G → R D) (mo : ME) (ms : MA) : ME := fun env g => (mo env g).bind fun o g1 => match insAt g1 o c with
  | some fs => if fs.lookup m = none then (ms env g1).bind fun ds g2 => if (o :: ds).length = n then F (o :: ds) g2 else .stuck else .stuck
  | none => .stuck
/-- a method that does what F does -/
def CalM (P : Program) (w : World) (base : Heap) (C : Cst) (c m : Str) (cl : Addr) (k : Nat) (ps : List Str) (F : List D → G → R D) : Prop :=
  ∃ f fd, FnG P w C.K C.mg base (L2.CX P w) k f fd ps (spOf C ps.length F) ∧ Meth C.K cl m f ∧ Binds C.K fd ps []
theorem re_meth {c m : Str} {cl : Addr} {n : Nat} {F : List D → G → R D} {mo : ME} {ms : MA} (O : ObC C c cl) {σ : L2.St} {H : Hp} {Q : VK} (h : RE C Wx (mMeth c m n F mo ms) σ H Q) : tMethG cl m (spOf C n F) (WE Wx) (RE C Wx mo) (RA C Wx ms) σ H Q := by
  obtain ⟨W, env, oas, g, r, S, P⟩ := h
  refine ⟨W, env, oas, g, r, S, Post.mono (Post.split P) fun v H1 ⟨d, g1, r1, b1, s1, p1, q1⟩ => ?_⟩
  dsimp only at q1
  split at q1
  · rename_i fs hf
    split at q1
    · rename_i hm
      obtain ⟨n', a, dx, xs, rfl, rfl, e1, e2, e3, e4, e5⟩ := insAt_rp b1 p1 O.mg hf
      refine ⟨a, dx, xs, rfl, e3, look_none e4 hm, W, env, oas, g1, r1, S.step s1 b1, Post.mono (Post.split q1) fun vs H2 ⟨ds, g2, r2, b2, s2, p2, q2⟩ => ?_⟩
      dsimp only at q2
      split at q2
      · rename_i hl
        exact ⟨r2, W, g2, _, b2, .cons (p1.step s2) p2, hl, q2.wish fun _ _ _ z => z⟩
      · exact q2.elim
    · exact q1.elim
  · exact q1.elim
theorem se_meth {k : Nat} {f cl : Addr} {fd : FuncData} {ps : List Str} {F : List D → G → R D} {c m : Str} {o e : Expr} {es : List Expr} {pos apos : Pos} {mo : ME} {ms : MA} {pl : Sem Bool} (hK : C.K = X.K) (O : ObC C c cl) (Fo : FnG X.prog X.w X.K X.mg X.base (L2.CX X.prog X.w) k f fd ps (spOf C ps.length F)) (hm : Meth C.K cl m f) (hr : RoomG k X.A) (hb : Binds C.K fd ps []) (tk : Takes X Wx)
    (ho : PE X o (RE C Wx mo)) (ha : PA X (e :: es) (RA C Wx ms)) (hst : starEach (e :: es) X.env = (false, eval e X.env) :: starEach es X.env := by rfl) (hpl : (backTo pos (starEach es X.env)).any (·.1) = false := by rfl)
    (ht : eval (.Call (.Attribute o m apos) (e :: es) [] pos) X.env = (do
      let ov ← eval o X.env
      standAt apos.atName
      let (f, first) ← holding [ov] (getMethod ov m pl)
      callWith pos f first (backTo pos (starEach (e :: es) X.env)) (backToKw pos (keywordEach [] X.env))) := by rfl) :
    PE X (.Call (.Attribute o m apos) (e :: es) [] pos) (RE C Wx (mMeth c m ps.length F mo ms)) :=
  PEm (pe_methG (pl := pl) (E := WE Wx) ho (hK ▸ O.cls) (hK ▸ hm) Fo hr (hK ▸ hb) (fun σ => passAt tk σ) ha hst hpl ht) fun _ _ _ h => re_meth O h
theorem se_meth0 {k : Nat} {f cl : Addr} {fd : FuncData} {ps : List Str} {F : List D → G → R D} {c m : Str} {o : Expr} {pos apos : Pos} {mo : ME} {pl : Sem Bool} (hK : C.K = X.K) (O : ObC C c cl) (Fo : FnG X.prog X.w X.K X.mg X.base (L2.CX X.prog X.w) k f fd ps (spOf C ps.length F)) (hm : Meth C.K cl m f) (hr : RoomG k X.A) (hb : Binds C.K fd ps []) (tk : Takes X Wx)
    (ho : PE X o (RE C Wx mo))
    (ht : eval (.Call (.Attribute o m apos) [] [] pos) X.env = (do
      let ov ← eval o X.env
      standAt apos.atName
      let (f, first) ← holding [ov] (getMethod ov m pl)
      callWith pos f first (backTo pos (starEach [] X.env)) (backToKw pos (keywordEach [] X.env))) := by rfl) :
    PE X (.Call (.Attribute o m apos) [] [] pos) (RE C Wx (mMeth c m ps.length F mo mNil)) :=
  PEm (pe_methG0 (pl := pl) (E := WE Wx) ho (hK ▸ O.cls) (hK ▸ hm) Fo hr (hK ▸ hb) (fun σ => passAt tk σ) ht) fun σ H Q h => by
    obtain ⟨W, env, oas, g, r, S, P⟩ := re_meth O h
    refine ⟨W, env, oas, g, r, S, Post.mono P fun v H1 ⟨a, dx, fs, e1, e2, e3, e4⟩ => ⟨a, dx, fs, e1, e2, e3, ?_⟩⟩
    obtain ⟨W', env', oas', g', r', S', P'⟩ := e4
    exact Post.here (d := []) (g := g') P' S'.bs .nil
/-! ### C(..) -/
def mMake (c : Str) (n : Nat) (F : List D → G → R D) (ms : MA) : ME := fun env g => (ms env g).bind fun ds g1 => if ds.length + 1 = n then (F (.gr g1.length :: ds) (g1 ++ [.ins c []])).bind fun d g2 => match d with
  | .non => .ok (.gr g1.length) g2
  | _ => .stuck
  else .stuck
/-- a class that is made by what F does -/
def CalI (P : Program) (w : World) (base : Heap) (C : Cst) (c : Str) (cl : Addr) (k : Nat) (ps : List Str) (F : List D → G → R D) : Prop :=
  ∃ f fd, FnG P w C.K C.mg base (L2.CX P w) k f fd ps (spOf C ps.length F) ∧ L2.Mk C.K cl f ∧ Binds C.K fd ps []
theorem se_make {k : Nat} {f cl : Addr} {fd : FuncData} {ps : List Str} {F : List D → G → R D} {c : Str} {e : Expr} {es : List Expr} {p pos : Pos} {ms : MA} (hK : C.K = X.K) (hM : C.mg = X.mg) (O : ObC C c cl) (Fo : FnG X.prog X.w X.K X.mg X.base (L2.CX X.prog X.w) k f fd ps (spOf C ps.length F)) (M : L2.Mk C.K cl f) (hr : RoomG (k + 1) X.A) (hb : Binds C.K fd ps []) (tk : Takes X Wx)
    (hg : Gl X c) (ha : PA X (e :: es) (RA C Wx ms)) (hdb : (c == ("__debug__" : Str)) = false := by decide) (he : starEach (e :: es) X.env = (false, eval e X.env) :: starEach es X.env := by rfl) (hpl : (backTo pos (starEach es X.env)).any (·.1) = false := by rfl) :
    PE X (.Call (.Name c p) (e :: es) [] pos) (RE C Wx (mMake c ps.length F ms)) :=
  PEm (pe_mkG (E := WE Wx) (hK ▸ M) Fo hr hg (hM ▸ O.mg) (hK ▸ hb) (fun σ => passAt tk σ) ha hdb he hpl) fun σ H Q h => by
    obtain ⟨W, env, oas, g, r, S, P⟩ := h
    refine ⟨W, env, oas, g, r, S, Post.mono (Post.split P) fun vs H1 ⟨ds, g1, r1, b1, s1, p1, q1⟩ => ?_⟩
    dsimp only at q1
    split at q1
    · rename_i hl
      intro x dx hx hdx hne
      have st1 : Step r1 r1 H1 (upd H1 dx (.own x)) := Step.upd hdx
      have hx2 : upd H1 dx (.own x) x = none := by rw [upd_ne (fun z => hne z.symm)]; exact hx
      have b2 := (b1.upd (o := .own x) hdx).more (p := x) (o := .ins cl dx []) hx2 (fun z => nomatch z)
      have hw : ¬ W x := fun z => b1.wtr x z hx
      have b3 := b2.adopt (o := .ins c []) hw (.ins upd_same rfl O.mg .nil) rfl
      have st2 : Step r1 (r1 ++ [x]) H1 (upd (upd H1 dx (.own x)) x (.ins cl dx [])) := (st1.trans (Step.upd hx2)).adopt hx
      refine ⟨r1 ++ [x], W, g1 ++ [.ins c []], .gr g1.length :: ds, b3, .cons (.gr (gr_new b1)) (p1.step st2), by rw [List.length_cons]; exact hl, ?_⟩
      have q2 := Post.after (H1 := upd (upd H1 dx (.own x)) x (.ins cl dx [])) q1 st2
      refine Post.wish (Wx := Wx) (σ := σ) (Post.mono (Post.split (Rl := RlE C W) q2) fun v H2 ⟨d, g2, r2, b4, s4, p4, q4⟩ => ?_) fun _ _ _ z => z
      cases d with
      | non => exact ⟨p4.isNon, q4.here b4 (.gr (s4.pre _ _ (gr_new b1)))⟩
      | _ => exact q4.elim
    · exact q1.elim
end
end GT

/-! GtXd: methods: where they stand, what they keep. -/
namespace GT
open PySem PySem.Spec PyProof.Rows L2 RZ
/-- a method of a class of the text -/
def methOf (m : Str) : Stmt → Stmt
  | .ClassDef _ _ _ b _ _ _ _ _ _ _ => (b.find? fun s => match s with
    | .FunctionDef n _ _ _ _ _ _ _ _ _ => n == m
    | _ => false).getD (.Pass ⟨0, 0, 0, 0⟩)
  | s => s
def AtM (K : PySem.W.Frag) (cl : Addr) (m qual : Str) (st : Stmt) : Prop := ∃ f fd, L2.Fun K m qual st f fd ∧ Meth K cl m f
def AtI (K : PySem.W.Frag) (cl : Addr) (qual : Str) (st : Stmt) : Prop := ∃ f fd, L2.Fun K "__init__" qual st f fd ∧ L2.Mk K cl f
section
variable {P : Program} {w : World} {base : Heap} {C : Cst} {c m qual : Str} {cl : Addr} {st : Stmt} {N ps : List Str} {k : Nat} {ms : MS}
theorem calm_of (F : AtM C.K cl m qual st) (S : FnScope N ps (defScope st))
    (hb : ∀ (kV doc pm : Value) (an : Option Addr) (cdv ct : Value) (us : List Value), us.length = ps.length → bindArgs (PySem.W.fnOf m qual (defArgs st) (defBody st) (defScope st) .none kV doc pm an cdv ct) ⟨us, []⟩ = pure (ps.zip us))
    (hbody : ∀ (f : Addr) (cdv : Value) (A : Around) (outer : List Env) (s : Shared) (H : Hp) (E : XK), RoomG k (A.deeper (envOfC qual (defScope st) s.heap.objs.size f cdv)) →
      PSs (cxOf (L2.CX P w) P w C.K C.mg base N qual (defScope st) f cdv A outer s H E) (defBody st) (RS C (fun cls d _ H' => E cls d H') ms)) : CalM P w base C c m cl (k + 1) ps (mDef N.length ms) := by
  obtain ⟨f, fd, F, g⟩ := F
  exact ⟨f, fd, def_ok F S (hbody f), g, F.binds hb⟩
theorem cali_of (F : AtI C.K cl qual st) (S : FnScope N ps (defScope st))
    (hb : ∀ (kV doc pm : Value) (an : Option Addr) (cdv ct : Value) (us : List Value), us.length = ps.length → bindArgs (PySem.W.fnOf "__init__" qual (defArgs st) (defBody st) (defScope st) .none kV doc pm an cdv ct) ⟨us, []⟩ = pure (ps.zip us))
    (hbody : ∀ (f : Addr) (cdv : Value) (A : Around) (outer : List Env) (s : Shared) (H : Hp) (E : XK), RoomG k (A.deeper (envOfC qual (defScope st) s.heap.objs.size f cdv)) →
      PSs (cxOf (L2.CX P w) P w C.K C.mg base N qual (defScope st) f cdv A outer s H E) (defBody st) (RS C (fun cls d _ H' => E cls d H') ms)) : CalI P w base C c cl (k + 1) ps (mDef N.length ms) := by
  obtain ⟨f, fd, F, g⟩ := F
  exact ⟨f, fd, def_ok F S (hbody f), g, F.binds hb⟩
end
theorem atm_mk {K : PySem.W.Frag} {cl f : Addr} {m qual : Str} {st : Stmt} {oc : Value} {od an : Option Addr} {osl : Array (Option Value)} {kV doc pm cdv ct : Value} (a : PySem.W.findIn K (.ref cl) m = some (some (.ref f))) (i : PySem.W.isFn K (.ref f) = true)
    (l : K.lookup f = some ⟨oc, od, .func (PySem.W.fnOf m qual (defArgs st) (defBody st) (defScope st) .none kV doc pm an cdv ct), osl⟩) (c : PySem.W.codeIn K cdv qual = true) (k : PySem.W.keepIn K (.ref f) = true) : AtM K cl m qual st := ⟨f, _, fun_mk l c k, ⟨a, i, k⟩⟩
theorem ati_mk {K : PySem.W.Frag} {cl f : Addr} {qual : Str} {st : Stmt} {oc : Value} {od an : Option Addr} {osl : Array (Option Value)} {kV doc pm cdv ct : Value} (a : PySem.W.findIn K (.ref cl) "__init__" = some (some (.ref f))) (i : PySem.W.isFn K (.ref f) = true)
    (l : K.lookup f = some ⟨oc, od, .func (PySem.W.fnOf "__init__" qual (defArgs st) (defBody st) (defScope st) .none kV doc pm an cdv ct), osl⟩) (c : PySem.W.codeIn K cdv qual = true) (k : PySem.W.keepIn K (.ref f) = true) (mk : PySem.W.makesIn K cl = true) (kc : PySem.W.keepIn K (.ref cl) = true) : AtI K cl qual st := ⟨f, _, fun_mk l c k, ⟨mk, a, i, kc⟩⟩
end GT

namespace KX
open PySem PySem.Spec PyProof.Rows L2 RZ GT
def top (i : Nat) : Stmt := PySem.Challenge.pw_gaptrains_k43_texts_by_hand.main.body.getD i (.Pass ⟨0, 0, 0, 0⟩)
/-- what the top has left of the built-ins and the numbers and texts of the module -/
structure Tx (mg : Str → Option Value) : Prop where
  b_isinstance : mg "isinstance" = none
  b_int : mg "int" = none
  b_bool : mg "bool" = none
  b_tuple : mg "tuple" = none
  b_len : mg "len" = none
  b_list : mg "list" = none
  b_range : mg "range" = none
  b_max : mg "max" = none
  b_min : mg "min" = none
  b_str : mg "str" = none
  b_all : mg "all" = none
  b_zip : mg "zip" = none
  b_enumerate : mg "enumerate" = none
  b_repr : mg "repr" = none
  b_super : mg "super" = none
  c_COMMA : ∃ t, mg "COMMA" = some (.str "," t)
  c_FIGURES : ∃ t, mg "FIGURES" = some (.str "0123456789" t)
  c_MOST_TOP : ∃ t, mg "MOST_TOP" = some (.int 3 t)
  c_MOST_LEAST : ∃ t, mg "MOST_LEAST" = some (.int 9 t)
  c_NO : ∃ t, mg "NO" = some (.str "no" t)
  c_LATE_texts : ∃ t, mg "LATE_texts" = some (.str "late" t)
  c_YES : ∃ t, mg "YES" = some (.str "yes" t)
  c_PARTS : ∃ t, mg "PARTS" = some (.int 7 t)
  c_MOST_ROWS : ∃ t, mg "MOST_ROWS" = some (.int 6 t)
  c_RULES : ∃ t, mg "RULES" = some (.int 5 t)
  c_MOST_LOOKS : ∃ t, mg "MOST_LOOKS" = some (.int 6 t)
  c_LOOKS_books : ∃ t, mg "LOOKS_books" = some (.int 4 t)
  c_LATE_books : ∃ t, mg "LATE_books" = some (.int 6 t)
  c_LEAST : ∃ t, mg "LEAST" = some (.str "least" t)
  c_SPEEDS : ∃ t, mg "SPEEDS" = some (.str "speeds" t)
  c_LOOKS_texts : ∃ t, mg "LOOKS_texts" = some (.str "looks" t)
  c_ROW : ∃ t, mg "ROW" = some (.str "row" t)
abbrev s_is_whole : Stmt := top 13
abbrev s_is_tuple_of : Stmt := top 14
abbrev s_follows_in : Stmt := top 15
abbrev s_is_choice : Stmt := top 16
abbrev s_is_row : Stmt := top 17
abbrev s_first_fault : Stmt := top 18
abbrev s_numbers_fault : Stmt := top 19
abbrev s_book_fault : Stmt := top 20
abbrev s_need_book : Stmt := top 21
abbrev s_line_of : Stmt := top 32
abbrev s_choice_text : Stmt := top 33
abbrev s_book_text : Stmt := top 34
abbrev s_number_in : Stmt := top 35
abbrev s_choice_in : Stmt := top 36
abbrev s_Reader___init__ : Stmt := methOf "__init__" (top 37)
abbrev s_Reader_has_word : Stmt := methOf "has_word" (top 37)
abbrev s_Reader_need : Stmt := methOf "need" (top 37)
abbrev s_Reader_need_last : Stmt := methOf "need_last" (top 37)
abbrev s_read_book : Stmt := top 38
abbrev s__law_begun : Stmt := top 40
abbrev s__law_draw : Stmt := top 41
abbrev s__law_of : Stmt := top 42
abbrev s__law_books : Stmt := top 43
abbrev s_law : Stmt := top 44
abbrev i_BadBook : Stmt := initOf (top 2)
abbrev i_BadText : Stmt := initOf (top 3)
def noLam : Lam := ⟨⟨[], [], none, [], [], none, []⟩, noE, ⟨.function, [], false, false, []⟩, "", [], none⟩
def lam_0 : Lam := (lamAt "book_fault.<locals>.<lambda>" s_book_fault [4] [4]).getD noLam
def lam_1 : Lam := (lamAt "book_fault.<locals>.<lambda>" s_book_fault [7] [4]).getD noLam
def Lt : Nat → Lam := fun n => match n with
  | 0 => lam_0
  | 1 => lam_1
  | _ => noLam
/-- the errors of the text -/
structure Ers (P : Program) (w : World) (K : PySem.W.Frag) (mg : Str → Option Value) (base : Heap) (Tb : List (Addr × Str)) (C_BadBook C_BadText C_Reader : Addr) : Prop where
  e_BadBook : ErrC P w base ⟨K, mg, Lt, Tb⟩ "BadBook" ["part", "number"] C_BadBook
  e_BadText : ErrC P w base ⟨K, mg, Lt, Tb⟩ "BadText" ["place"] C_BadText
  xa : ExAll K [("BadBook", C_BadBook), ("BadText", C_BadText)]
  o_Reader : ObC ⟨K, mg, Lt, Tb⟩ "Reader" C_Reader
  n_Reader_reader_lines : NoAttr K C_Reader "reader_lines"
  n_Reader_reader_at : NoAttr K C_Reader "reader_at"
abbrev N_is_whole : List Str := ["thing", "least", "most"]
abbrev N_is_tuple_of : List Str := ["thing", "least", "most"]
abbrev N_follows_in : List Str := ["top", "up", "down", "speed"]
abbrev N_line_of : List Str := ["word", "some"]
abbrev N_choice_text : List Str := ["some", "speed"]
abbrev N_number_in : List Str := ["word"]
abbrev N_Reader___init__ : List Str := ["self", "text"]
abbrev N_Reader_has_word : List Str := ["self", "word"]
abbrev N__law_begun : List Str := ["_law_script", "_law_seed", "_law_cell"]
abbrev N__law_draw : List Str := ["_law_m", "_law_limit", "_law_mixed", "_law_cell"]
abbrev N__law_books : List Str := ["_law_row", "_law_stop", "_law_text", "_law_found", "_law_wide", "_law_free", "_law_brake"]
abbrev N_is_choice : List Str := ["some", "thing", "one", "other"]
abbrev N_numbers_fault : List Str := ["thing", "top", "up", "down", "least"]
abbrev N_choice_in : List Str := ["word", "found", "one"]
abbrev N_is_row : List Str := ["top", "up", "down", "thing", "speed", "some"]
abbrev N_Reader_need : List Str := ["self", "word", "many", "is_row", "found", "words", "one"]
abbrev N_Reader_need_last : List Str := ["self", "line"]
abbrev N_first_fault : List Str := ["part", "thing", "most", "is_good", "wrong", "number", "one"]
abbrev N_book_fault : List Str := ["thing", "found", "top", "up", "down", "rows"]
abbrev N_need_book : List Str := ["thing", "wrong"]
abbrev N_book_text : List Str := ["book", "top", "up", "down", "least", "looks", "rules", "late", "lines", "row", "aspect", "some"]
abbrev N_read_book : List Str := ["text", "reader", "speeds", "least", "looks", "rules"]
abbrev N_law : List Str := ["_law_script", "_law_m", "_law_some", "_law_begin", "_law_book", "_law_text"]
theorem sc_is_whole : FnScope N_is_whole ["thing", "least", "most"] (defScope s_is_whole) := ⟨rfl, rfl, rfl, by decide +kernel, rfl, by decide +kernel, by decide +kernel⟩
def m_is_whole : List D → G → R D := mDef 3 (mSeq (mIfS (mOrT (mNotT (mTst (mIsi tabInt (mPk 0)))) (mOrT (mTst (mIsi tabBool (mPk 0))) (mTst (mBin fLt (mPk 0) (mPk 1))))) (mRet (mC (.bl false))) (mSkip)) (mRet (mOrV (mBin fIsN (mPk 2) (mC .non)) (mBin fLe (mPk 0) (mPk 2)))))
theorem ok_is_whole {P : Program} {w : World} {K : PySem.W.Frag} {mg : Str → Option Value} {base : Heap} {Tb : List (Addr × Str)} {C_BadBook C_BadText C_Reader : Addr} (T : Tx mg) (SB : SysB base) (ER : Ers P w K mg base Tb C_BadBook C_BadText C_Reader) (F : At K mg "is_whole" s_is_whole) : Cal P w base ⟨K, mg, Lt, Tb⟩ "is_whole" 1 ["thing", "least", "most"] m_is_whole := by
  have b_isinstance := T.b_isinstance
  have b_int := T.b_int
  have b_bool := T.b_bool
  refine cal_of (k := 0) F sc_is_whole (fun _ _ _ _ _ _ us hl => match us, hl with | [_, _, _], _ => rfl) fun f cdv A outer s H E hr => ?_
  exact ss_cons (ss_if (PW.pt (st_or (st_not (st_val (se_isi rfl tabInt_ok (sp_var 0) rfl b_isinstance rfl b_int bb_int))) (st_or (st_val (se_isi rfl tabBool_ok (sp_var 0) rfl b_isinstance rfl b_bool bb_bool)) (st_or1 (st_cmp (op_ltA (hu0 hr)) os_lt.s (sp_var 0) (sp_var 1)))))) (ss_one (ss_ret (se_bl))) (ss_nil)) (ss_one (ss_ret (se_or (se_cmp op_isN os_isN.s (sp_var 2) (sp_of (se_non))) (se_one (se_cmp op_le (os_cmpI _).s (sp_var 0) (sp_var 2))))))
theorem sc_is_tuple_of : FnScope N_is_tuple_of ["thing", "least", "most"] (defScope s_is_tuple_of) := ⟨rfl, rfl, rfl, by decide +kernel, rfl, by decide +kernel, by decide +kernel⟩
def m_is_tuple_of : List D → G → R D := mDef 3 (mRet (mAndV (mIsi tabTuple (mPk 0)) (mChain fLe fLe (mPk 1) (mBlt fLen (mCons (mPk 0) (mNil))) (mPk 2))))
theorem ok_is_tuple_of {P : Program} {w : World} {K : PySem.W.Frag} {mg : Str → Option Value} {base : Heap} {Tb : List (Addr × Str)} {C_BadBook C_BadText C_Reader : Addr} (T : Tx mg) (SB : SysB base) (ER : Ers P w K mg base Tb C_BadBook C_BadText C_Reader) (F : At K mg "is_tuple_of" s_is_tuple_of) : Cal P w base ⟨K, mg, Lt, Tb⟩ "is_tuple_of" 1 ["thing", "least", "most"] m_is_tuple_of := by
  have b_isinstance := T.b_isinstance
  have b_tuple := T.b_tuple
  have b_len := T.b_len
  refine cal_of (k := 0) F sc_is_tuple_of (fun _ _ _ _ _ _ us hl => match us, hl with | [_, _, _], _ => rfl) fun f cdv A outer s H E hr => ?_
  exact ss_one (ss_ret (se_and (se_isi rfl tabTuple_ok (sp_var 0) rfl b_isinstance rfl b_tuple bb_tuple) (se_one (se_chain op_le (os_cmpI _) op_le (os_cmpI _) (sp_var 1) (sp_of (se_blt call_lenA cs_len rfl b_len bb_len (pa_consP (sp_var 0) (pa_nilP)))) (sp_var 2)))))
theorem sc_follows_in : FnScope N_follows_in ["top", "up", "down", "speed"] (defScope s_follows_in) := ⟨rfl, rfl, rfl, by decide +kernel, rfl, by decide +kernel, by decide +kernel⟩
def m_follows_in : List D → G → R D := mDef 4 (mRet (mLstI (mRg2 (mBlt fMax (mCons (mC (.int 0)) (mCons (mBin fSub (mPk 3) (mPk 2)) (mNil)))) (mBin fAdd (mBlt fMin (mCons (mPk 0) (mCons (mBin fAdd (mPk 3) (mPk 1)) (mNil)))) (mC (.int 1))))))
theorem ok_follows_in {P : Program} {w : World} {K : PySem.W.Frag} {mg : Str → Option Value} {base : Heap} {Tb : List (Addr × Str)} {C_BadBook C_BadText C_Reader : Addr} (T : Tx mg) (SB : SysB base) (ER : Ers P w K mg base Tb C_BadBook C_BadText C_Reader) (F : At K mg "follows_in" s_follows_in) : Cal P w base ⟨K, mg, Lt, Tb⟩ "follows_in" 1 ["top", "up", "down", "speed"] m_follows_in := by
  have b_list := T.b_list
  have b_range := T.b_range
  have b_max := T.b_max
  have b_min := T.b_min
  refine cal_of (k := 0) F sc_follows_in (fun _ _ _ _ _ _ us hl => match us, hl with | [_, _, _, _], _ => rfl) fun f cdv A outer s H E hr => ?_
  exact ss_one (ss_ret (se_listRg2 rfl rfl b_list rfl b_range (se_blt (call_maxA rfl) cs_max rfl b_max bb_max (pa_consP (sp_of (se_int)) (pa_consP (sp_of (se_bin op_sub os_sub (sp_var 3) (sp_var 2))) (pa_nilP)))) (se_bin op_addA os_add (sp_of (se_blt (call_minA rfl) cs_min rfl b_min bb_min (pa_consP (sp_var 0) (pa_consP (sp_of (se_bin op_addA os_add (sp_var 3) (sp_var 1))) (pa_nilP))))) (sp_of (se_int)))))
theorem sc_line_of : FnScope N_line_of ["word", "some"] (defScope s_line_of) := ⟨rfl, rfl, rfl, by decide +kernel, rfl, by decide +kernel, by decide +kernel⟩
def m_line_of : List D → G → R D := mDef 2 (mRet (mM1 fJoin (mC (.str " ")) (mNew (mItems (mCons (mVar 0) (mStar (mVar 1) (mNil)))))))
theorem ok_line_of {P : Program} {w : World} {K : PySem.W.Frag} {mg : Str → Option Value} {base : Heap} {Tb : List (Addr × Str)} {C_BadBook C_BadText C_Reader : Addr} (T : Tx mg) (SB : SysB base) (ER : Ers P w K mg base Tb C_BadBook C_BadText C_Reader) (F : At K mg "line_of" s_line_of) : Cal P w base ⟨K, mg, Lt, Tb⟩ "line_of" 1 ["word", "some"] m_line_of := by
  refine cal_of (k := 0) F sc_line_of (fun _ _ _ _ _ _ us hl => match us, hl with | [_, _], _ => rfl) fun f cdv A outer s H E hr => ?_
  exact ss_one (ss_ret (se_join (sp_of (se_str)) (sp_of (se_new (sn_lst (sa_cons (se_var 0) (sa_star (se_var 1) (sa_nil))))))))
theorem sc_choice_text : FnScope N_choice_text ["some"] (defScope s_choice_text) := ⟨rfl, rfl, rfl, by decide +kernel, rfl, by decide +kernel, by decide +kernel⟩
def m_choice_text : List D → G → R D := mDef 2 (mRet (mM1 fJoin (mC (.str ",")) (mNew (mComp [1] (mItB (mVar 0)) (bName 1) (mYes) (mBlt fStr1 (mCons (mPk 1) (mNil)))))))
theorem ok_choice_text {P : Program} {w : World} {K : PySem.W.Frag} {mg : Str → Option Value} {base : Heap} {Tb : List (Addr × Str)} {C_BadBook C_BadText C_Reader : Addr} (T : Tx mg) (SB : SysB base) (ER : Ers P w K mg base Tb C_BadBook C_BadText C_Reader) (F : At K mg "choice_text" s_choice_text) : Cal P w base ⟨K, mg, Lt, Tb⟩ "choice_text" 1 ["some"] m_choice_text := by
  have b_str := T.b_str
  obtain ⟨t_COMMA, c_COMMA⟩ := T.c_COMMA
  refine cal_of (k := 0) F sc_choice_text (fun _ _ _ _ _ _ us hl => match us, hl with | [_], _ => rfl) fun f cdv A outer s H E hr => ?_
  exact ss_one (ss_ret (se_join (sp_of (se_gstr rfl c_COMMA)) (sp_of (se_new (sn_comp (own := [("speed", 1)]) rfl sc_choice_text.nd (siq (si_anyD rfl (se_var 0))) (blkOk_by (N := N_choice_text) (sc := defScope s_choice_text) (by decide +kernel)) (bs_name 1) (by decide) (fun _ _ _ _ _ => pg_name (i := 1) sc_choice_text.nd rfl (by first | exact Or.inl rfl | exact Or.inr rfl)) (fun _ _ _ _ _ => pts_nilS) (fun _ _ _ _ _ => se_ty call_str1 cs_str1 rfl b_str bb_str (pa_consP (sp_var 1) (pa_nilP))))))))
theorem sc_number_in : FnScope N_number_in ["word"] (defScope s_number_in) := ⟨rfl, rfl, rfl, by decide +kernel, rfl, by decide +kernel, by decide +kernel⟩
def m_number_in : List D → G → R D := mDef 1 (mRet (mIf (mAndT (mTst (mBin fEq (mBlt fLen (mCons (mPk 0) (mNil))) (mC (.int 1)))) (mTst (mBin fIn (mPk 0) (mC (.str "0123456789"))))) (mBlt fIntT (mCons (mPk 0) (mNil))) (mC .non)))
theorem ok_number_in {P : Program} {w : World} {K : PySem.W.Frag} {mg : Str → Option Value} {base : Heap} {Tb : List (Addr × Str)} {C_BadBook C_BadText C_Reader : Addr} (T : Tx mg) (SB : SysB base) (ER : Ers P w K mg base Tb C_BadBook C_BadText C_Reader) (F : At K mg "number_in" s_number_in) : Cal P w base ⟨K, mg, Lt, Tb⟩ "number_in" 1 ["word"] m_number_in := by
  have b_len := T.b_len
  have b_int := T.b_int
  obtain ⟨t_FIGURES, c_FIGURES⟩ := T.c_FIGURES
  refine cal_of (k := 0) F sc_number_in (fun _ _ _ _ _ _ us hl => match us, hl with | [_], _ => rfl) fun f cdv A outer s H E hr => ?_
  exact ss_one (ss_ret (se_if (PW.pt (st_and (st_cmp (op_eqD (hu64 hr)) os_eq.s (sp_of (se_blt call_lenA cs_len rfl b_len bb_len (pa_consP (sp_var 0) (pa_nilP)))) (sp_of (se_int))) (st_and1 (st_cmp (op_inA (hu65 hr)) os_in.s (sp_var 0) (sp_of (se_gstr rfl c_FIGURES)))))) (se_ty call_intT cs_intT rfl b_int bb_int (pa_consP (sp_var 0) (pa_nilP))) (se_non)))
theorem sc_Reader___init__ : FnScope N_Reader___init__ ["self", "text"] (defScope s_Reader___init__) := ⟨rfl, rfl, rfl, by decide +kernel, rfl, by decide +kernel, by decide +kernel⟩
def m_Reader___init__ : List D → G → R D := mDef 2 (mSeq (mSetF "Reader" "reader_lines" (mVar 0) (mM1 fSplit (mPk 1) (mC (.str "\n")))) (mSetF "Reader" "reader_at" (mVar 0) (mC (.int 0))))
theorem ok_Reader___init__ {P : Program} {w : World} {K : PySem.W.Frag} {mg : Str → Option Value} {base : Heap} {Tb : List (Addr × Str)} {C_BadBook C_BadText C_Reader : Addr} (T : Tx mg) (SB : SysB base) (ER : Ers P w K mg base Tb C_BadBook C_BadText C_Reader) (F : AtI K C_Reader "Reader.__init__" s_Reader___init__) : CalI P w base ⟨K, mg, Lt, Tb⟩ "Reader" C_Reader 1 ["self", "text"] m_Reader___init__ := by
  have O_Reader := ER.o_Reader
  have n_Reader_reader_lines := ER.n_Reader_reader_lines
  have n_Reader_reader_at := ER.n_Reader_reader_at
  refine cali_of (k := 0) F sc_Reader___init__ (fun _ _ _ _ _ _ us hl => match us, hl with | [_, _], _ => rfl) fun f cdv A outer s H E hr => ?_
  exact ss_cons (ss_fld rfl O_Reader n_Reader_reader_lines (se_var 0) (se_split (sp_var 1) (sp_of (se_str)))) (ss_one (ss_fld rfl O_Reader n_Reader_reader_at (se_var 0) (se_int)))
theorem sc_Reader_has_word : FnScope N_Reader_has_word ["self", "word"] (defScope s_Reader_has_word) := ⟨rfl, rfl, rfl, by decide +kernel, rfl, by decide +kernel, by decide +kernel⟩
def m_Reader_has_word : List D → G → R D := mDef 2 (mRet (mAndV (mBin fLt (mFld "Reader" "reader_at" (mVar 0)) (mBlt fLen (mCons (mFld "Reader" "reader_lines" (mVar 0)) (mNil)))) (mBin fEq (mBin fIx (mM1 fSplit (mBin fIx (mFld "Reader" "reader_lines" (mVar 0)) (mFld "Reader" "reader_at" (mVar 0))) (mC (.str " "))) (mC (.int 0))) (mPk 1))))
theorem ok_Reader_has_word {P : Program} {w : World} {K : PySem.W.Frag} {mg : Str → Option Value} {base : Heap} {Tb : List (Addr × Str)} {C_BadBook C_BadText C_Reader : Addr} (T : Tx mg) (SB : SysB base) (ER : Ers P w K mg base Tb C_BadBook C_BadText C_Reader) (F : AtM K C_Reader "has_word" "Reader.has_word" s_Reader_has_word) : CalM P w base ⟨K, mg, Lt, Tb⟩ "Reader" "has_word" C_Reader 1 ["self", "word"] m_Reader_has_word := by
  have b_len := T.b_len
  have O_Reader := ER.o_Reader
  have n_Reader_reader_at := ER.n_Reader_reader_at
  have n_Reader_reader_lines := ER.n_Reader_reader_lines
  refine calm_of (k := 0) F sc_Reader_has_word (fun _ _ _ _ _ _ us hl => match us, hl with | [_, _], _ => rfl) fun f cdv A outer s H E hr => ?_
  exact ss_one (ss_ret (se_and (se_cmp (op_ltA (hu0 hr)) os_lt.s (sp_of (se_fld rfl O_Reader n_Reader_reader_at (se_var 0))) (sp_of (se_blt call_lenA cs_len rfl b_len bb_len (pa_consP (sp_of (se_fld rfl O_Reader n_Reader_reader_lines (se_var 0))) (pa_nilP))))) (se_one (se_cmp (op_eqD (hu64 hr)) os_eq.s (sp_of (se_ix rfl (hu1 hr) (sp_of (se_split (sp_of (se_ix rfl (hu1 hr) (sp_of (se_fld rfl O_Reader n_Reader_reader_lines (se_var 0))) (sp_of (se_fld rfl O_Reader n_Reader_reader_at (se_var 0))) (fun _ _ => rfl))) (sp_of (se_str)))) (sp_of (se_int)) (fun _ _ => rfl))) (sp_var 1)))))
theorem sc__law_begun : FnScope N__law_begun ["_law_script"] (defScope s__law_begun) := ⟨rfl, rfl, rfl, by decide +kernel, rfl, by decide +kernel, by decide +kernel⟩
def m__law_begun : List D → G → R D := mDef 3 (mSeq (mAsg (mC (.int 11)) (bName 1)) (mSeq (mFor (mItL (mVar 0)) (bName 2) (mAsg (mBin fMod (mBlt fInt1 (mCons (mBin fAdd (mBin fAdd (mBin fMul (mPk 1) (mC (.int 69621))) (mBin fMod (mBlt fInt1 (mCons (mPk 2) (mNil))) (mC (.int 2147483629)))) (mC (.int 7))) (mNil))) (mC (.int 2147483647))) (bName 1))) (mRet (mDisp [(.inr "great", mNew (mComp [2] (mItL (mVar 0)) (bName 2) (mTst (mBin fGe (mPk 2) (mBin fPow (mC (.int 10)) (mC (.int 18))))) (mVar 2))), (.inr "seed", mVar 1), (.inr "turns", mC (.int 0))]))))
theorem ok__law_begun {P : Program} {w : World} {K : PySem.W.Frag} {mg : Str → Option Value} {base : Heap} {Tb : List (Addr × Str)} {C_BadBook C_BadText C_Reader : Addr} (T : Tx mg) (SB : SysB base) (ER : Ers P w K mg base Tb C_BadBook C_BadText C_Reader) (F : At K mg "_law_begun" s__law_begun) : Cal P w base ⟨K, mg, Lt, Tb⟩ "_law_begun" 1 ["_law_script"] m__law_begun := by
  have b_int := T.b_int
  refine cal_of (k := 0) F sc__law_begun (fun _ _ _ _ _ _ us hl => match us, hl with | [_], _ => rfl) fun f cdv A outer s H E hr => ?_
  exact ss_cons (ss_set 1 sc__law_begun.nd rfl (by first | exact Or.inl rfl | exact Or.inr rfl) (se_int)) (ss_cons (ss_for (passes_of rfl) rfl (si_list rfl (se_var 0)) (pg_name (i := 2) sc__law_begun.nd rfl (by first | exact Or.inl rfl | exact Or.inr rfl)) (bs_name 2) (ss_one (ss_set 1 sc__law_begun.nd rfl (by first | exact Or.inl rfl | exact Or.inr rfl) (se_bin op_mod os_mod (sp_of (se_ty call_int1 cs_int1 rfl b_int bb_int (pa_consP (sp_of (se_bin op_addA os_add (sp_of (se_bin op_addA os_add (sp_of (se_bin op_mulA os_mul (sp_var 1) (sp_of (se_int)))) (sp_of (se_bin op_mod os_mod (sp_of (se_ty call_int1 cs_int1 rfl b_int bb_int (pa_consP (sp_var 2) (pa_nilP)))) (sp_of (se_int)))))) (sp_of (se_int)))) (pa_nilP)))) (sp_of (se_int)))))) (ss_one (ss_ret (se_disp [(.inr "great", mNew (mComp [2] (mItL (mVar 0)) (bName 2) (mTst (mBin fGe (mPk 2) (mBin fPow (mC (.int 10)) (mC (.int 18))))) (mVar 2))), (.inr "seed", mVar 1), (.inr "turns", mC (.int 0))] (pps_cons pe_str (se_new (sn_comp (own := [("_law_cell", 2)]) rfl sc__law_begun.nd (siq (si_list rfl (se_var 0))) (blkOk_by (N := N__law_begun) (sc := defScope s__law_begun) (by decide +kernel)) (bs_name 2) (by decide) (fun _ _ _ _ _ => pg_name (i := 2) sc__law_begun.nd rfl (by first | exact Or.inl rfl | exact Or.inr rfl)) (fun _ _ _ _ _ => pts_oneS (st_cmp op_ge (os_cmpI _).s (sp_var 2) (sp_of (se_bin op_pow os_pow (sp_of (se_int)) (sp_of (se_int)))))) (fun _ _ _ _ _ => se_var 2))) (pps_cons pe_str (se_var 1) (pps_cons pe_str (se_int) (pps_nil)))) rfl rfl (fun h => nomatch h) (by decide)))))
theorem sc__law_draw : FnScope N__law_draw ["_law_m", "_law_limit"] (defScope s__law_draw) := ⟨rfl, rfl, rfl, by decide +kernel, rfl, by decide +kernel, by decide +kernel⟩
def m__law_draw : List D → G → R D := mDef 4 (mSeq (mWhile 70 (mAndT (mTst (mBin fNe (mGet (mVar 0) (.inr "great")) (mNew (mItems (mNil))))) (mTst (mBin fEq (mBin fIx (mGet (mVar 0) (.inr "great")) (mC (.int 0))) (mC (.int 0))))) (mGPut 0 (.inr "great") (mSl (mGet (mVar 0) (.inr "great")) (mPart (mC (.int 1))) (mNo)))) (mSeq (mIfS (mTst (mBin fNe (mGet (mVar 0) (.inr "great")) (mNew (mItems (mNil))))) (mSeq (mAsg (mBin fIx (mGet (mVar 0) (.inr "great")) (mC (.int 0))) (bName 3)) (mSeq (mGPut 0 (.inr "great") (mBin fAdd (mNew (mItems (mCons (mBin fDiv (mPk 3) (mPk 1)) (mNil)))) (mSl (mGet (mVar 0) (.inr "great")) (mPart (mC (.int 1))) (mNo)))) (mRet (mBin fMod (mBlt fInt1 (mCons (mPk 3) (mNil))) (mPk 1))))) (mSkip)) (mSeq (mGPut 0 (.inr "turns") (mBin fAdd (mGet (mVar 0) (.inr "turns")) (mC (.int 1)))) (mSeq (mAsg (mBin fMod (mBlt fInt1 (mCons (mBin fAdd (mBin fAdd (mBin fMul (mGet (mVar 0) (.inr "seed")) (mC (.int 48271))) (mBin fMul (mBin fMul (mGet (mVar 0) (.inr "turns")) (mGet (mVar 0) (.inr "turns"))) (mC (.int 16807)))) (mGet (mVar 0) (.inr "turns"))) (mNil))) (mC (.int 2147483647))) (bName 2)) (mSeq (mAsg (mBin fMod (mBlt fInt1 (mCons (mBin fAdd (mBin fMul (mPk 2) (mC (.int 69621))) (mC (.int 12345))) (mNil))) (mC (.int 2147483629))) (bName 2)) (mRet (mBin fMod (mBin fDiv (mBin fMod (mBlt fInt1 (mCons (mBin fAdd (mBin fMul (mPk 2) (mC (.int 40014))) (mGet (mVar 0) (.inr "turns"))) (mNil))) (mC (.int 2147483563))) (mC (.int 64))) (mPk 1))))))))
theorem ok__law_draw {P : Program} {w : World} {K : PySem.W.Frag} {mg : Str → Option Value} {base : Heap} {Tb : List (Addr × Str)} {C_BadBook C_BadText C_Reader : Addr} (T : Tx mg) (SB : SysB base) (ER : Ers P w K mg base Tb C_BadBook C_BadText C_Reader) (F : At K mg "_law_draw" s__law_draw) : Cal P w base ⟨K, mg, Lt, Tb⟩ "_law_draw" 1 ["_law_m", "_law_limit"] m__law_draw := by
  have b_int := T.b_int
  refine cal_of (k := 0) F sc__law_draw (fun _ _ _ _ _ _ us hl => match us, hl with | [_, _], _ => rfl) fun f cdv A outer s H E hr => ?_
  exact ss_cons (ss_while 70 (passes_of rfl) (PW.pt (st_and (st_cmp (op_neD (hu64 hr)) os_ne.s (sp_of (se_get (k := .inr "great") (hu1 hr) (se_var 0) pe_str (fun _ _ => rfl))) (sp_of (se_new (sn_lst (sa_nil))))) (st_and1 (st_cmp (op_eqD (hu64 hr)) os_eq.s (sp_of (se_ix rfl (hu1 hr) (sp_of (se_get (k := .inr "great") (hu1 hr) (se_var 0) pe_str (fun _ _ => rfl))) (sp_of (se_int)) (fun _ _ => rfl))) (sp_of (se_int)))))) (ss_one (ss_gput (k := .inr "great") 0 (hu1 hr) rfl (by first | exact Or.inl rfl | exact Or.inr (Or.inl rfl) | exact Or.inr (Or.inr rfl)) (by decide) (by decide) pe_str (se_slice rfl (sp_of (se_get (k := .inr "great") (hu1 hr) (se_var 0) pe_str (fun _ _ => rfl))) (so_some (se_int)) (so_none)) rfl))) (ss_cons (ss_if (st_cmp (op_neD (hu64 hr)) os_ne.s (sp_of (se_get (k := .inr "great") (hu1 hr) (se_var 0) pe_str (fun _ _ => rfl))) (sp_of (se_new (sn_lst (sa_nil))))) (ss_cons (ss_set 3 sc__law_draw.nd rfl (by first | exact Or.inl rfl | exact Or.inr rfl) (se_ix rfl (hu1 hr) (sp_of (se_get (k := .inr "great") (hu1 hr) (se_var 0) pe_str (fun _ _ => rfl))) (sp_of (se_int)) (fun _ _ => rfl))) (ss_cons (ss_gput (k := .inr "great") 0 (hu1 hr) rfl (by first | exact Or.inl rfl | exact Or.inr (Or.inl rfl) | exact Or.inr (Or.inr rfl)) (by decide) (by decide) pe_str (se_bin op_addA os_add (sp_of (se_new (sn_lst (sa_cons (se_bin op_fdiv os_div (sp_var 3) (sp_var 1)) (sa_nil))))) (sp_of (se_slice rfl (sp_of (se_get (k := .inr "great") (hu1 hr) (se_var 0) pe_str (fun _ _ => rfl))) (so_some (se_int)) (so_none)))) rfl) (ss_one (ss_ret (se_bin op_mod os_mod (sp_of (se_ty call_int1 cs_int1 rfl b_int bb_int (pa_consP (sp_var 3) (pa_nilP)))) (sp_var 1)))))) (ss_nil)) (ss_cons (ss_gput (k := .inr "turns") 0 (hu1 hr) rfl (by first | exact Or.inl rfl | exact Or.inr (Or.inl rfl) | exact Or.inr (Or.inr rfl)) (by decide) (by decide) pe_str (se_bin op_addA os_add (sp_of (se_get (k := .inr "turns") (hu1 hr) (se_var 0) pe_str (fun _ _ => rfl))) (sp_of (se_int))) rfl) (ss_cons (ss_set 2 sc__law_draw.nd rfl (by first | exact Or.inl rfl | exact Or.inr rfl) (se_bin op_mod os_mod (sp_of (se_ty call_int1 cs_int1 rfl b_int bb_int (pa_consP (sp_of (se_bin op_addA os_add (sp_of (se_bin op_addA os_add (sp_of (se_bin op_mulA os_mul (sp_of (se_get (k := .inr "seed") (hu1 hr) (se_var 0) pe_str (fun _ _ => rfl))) (sp_of (se_int)))) (sp_of (se_bin op_mulA os_mul (sp_of (se_bin op_mulA os_mul (sp_of (se_get (k := .inr "turns") (hu1 hr) (se_var 0) pe_str (fun _ _ => rfl))) (sp_of (se_get (k := .inr "turns") (hu1 hr) (se_var 0) pe_str (fun _ _ => rfl))))) (sp_of (se_int)))))) (sp_of (se_get (k := .inr "turns") (hu1 hr) (se_var 0) pe_str (fun _ _ => rfl))))) (pa_nilP)))) (sp_of (se_int)))) (ss_cons (ss_set 2 sc__law_draw.nd rfl (by first | exact Or.inl rfl | exact Or.inr rfl) (se_bin op_mod os_mod (sp_of (se_ty call_int1 cs_int1 rfl b_int bb_int (pa_consP (sp_of (se_bin op_addA os_add (sp_of (se_bin op_mulA os_mul (sp_var 2) (sp_of (se_int)))) (sp_of (se_int)))) (pa_nilP)))) (sp_of (se_int)))) (ss_one (ss_ret (se_bin op_mod os_mod (sp_of (se_bin op_fdiv os_div (sp_of (se_bin op_mod os_mod (sp_of (se_ty call_int1 cs_int1 rfl b_int bb_int (pa_consP (sp_of (se_bin op_addA os_add (sp_of (se_bin op_mulA os_mul (sp_var 2) (sp_of (se_int)))) (sp_of (se_get (k := .inr "turns") (hu1 hr) (se_var 0) pe_str (fun _ _ => rfl))))) (pa_nilP)))) (sp_of (se_int)))) (sp_of (se_int)))) (sp_var 1))))))))
theorem sc__law_books : FnScope N__law_books [] (defScope s__law_books) := ⟨rfl, rfl, rfl, by decide +kernel, rfl, by decide +kernel, by decide +kernel⟩
def m__law_books : List D → G → R D := mDef 7 (mSeq (mAsg (mTup (mCons (mTup (mCons (mTup (mCons (mC (.int 0)) (mCons (mC (.int 1)) (mNil)))) (mCons (mTup (mCons (mC (.int 0)) (mCons (mC (.int 1)) (mNil)))) (mNil)))) (mCons (mTup (mCons (mTup (mCons (mC (.int 0)) (mNil))) (mCons (mTup (mCons (mC (.int 0)) (mNil))) (mNil)))) (mNil)))) (bTup [0, 1])) (mSeq (mAsg (mC (.str "speeds 1 1 1\nleast 0\nlooks 0 1\nrow 0 0\nrow 0,1 0,1\nlate no")) (bName 2)) (mSeq (mSetO 3 (mItems (mCons (mTup (mCons (mTup (mCons (mC (.int 1)) (mCons (mC (.int 1)) (mCons (mC (.int 1)) (mCons (mC (.int 0)) (mCons (mTup (mCons (mC (.int 0)) (mCons (mC (.int 1)) (mNil)))) (mCons (mTup (mCons (mVar 1) (mCons (mVar 0) (mNil)))) (mCons (mC (.bl false)) (mNil))))))))) (mCons (mVar 2) (mNil)))) (mNil)))) (mSeq (mAsg (mTup (mCons (mTup (mCons (mC (.int 0)) (mCons (mC (.int 1)) (mCons (mC (.int 2)) (mCons (mC (.int 3)) (mNil)))))) (mCons (mTup (mCons (mC (.int 0)) (mCons (mC (.int 3)) (mNil)))) (mCons (mTup (mCons (mC (.int 1)) (mNil))) (mCons (mTup (mCons (mC (.int 0)) (mCons (mC (.int 2)) (mCons (mC (.int 3)) (mNil))))) (mNil)))))) (bName 4)) (mSeq (mAsg (mC (.str "speeds 3 3 3\nleast 9\nlooks 0\nrow 0,1,2,3 0,3 1 0,2,3\nlate yes")) (bName 2)) (mSeq (mApp 3 (mTup (mCons (mTup (mCons (mC (.int 3)) (mCons (mC (.int 3)) (mCons (mC (.int 3)) (mCons (mC (.int 9)) (mCons (mTup (mCons (mC (.int 0)) (mNil))) (mCons (mTup (mCons (mVar 4) (mNil))) (mCons (mC (.bl true)) (mNil))))))))) (mCons (mVar 2) (mNil))))) (mSeq (mAsg (mTup (mCons (mTup (mCons (mTup (mCons (mC (.int 0)) (mCons (mC (.int 1)) (mNil)))) (mCons (mTup (mCons (mC (.int 0)) (mCons (mC (.int 1)) (mCons (mC (.int 2)) (mNil))))) (mCons (mTup (mCons (mC (.int 1)) (mCons (mC (.int 2)) (mNil)))) (mNil))))) (mCons (mTup (mCons (mTup (mCons (mC (.int 0)) (mNil))) (mCons (mTup (mCons (mC (.int 0)) (mNil))) (mCons (mTup (mCons (mC (.int 1)) (mNil))) (mNil))))) (mNil)))) (bTup [5, 6])) (mSeq (mAsg (mC (.str "speeds 2 1 1\nleast 4\nlooks 0 0 2 1 1 2\nrow 0 0 1\nrow 0,1 0,1,2 1,2\nrow 0 0 1\nlate yes")) (bName 2)) (mRet (mBin fAdd (mPk 3) (mNew (mItems (mCons (mTup (mCons (mTup (mCons (mC (.int 2)) (mCons (mC (.int 1)) (mCons (mC (.int 1)) (mCons (mC (.int 4)) (mCons (mTup (mCons (mC (.int 0)) (mCons (mC (.int 0)) (mCons (mC (.int 2)) (mCons (mC (.int 1)) (mCons (mC (.int 1)) (mCons (mC (.int 2)) (mNil)))))))) (mCons (mTup (mCons (mVar 6) (mCons (mVar 5) (mCons (mVar 6) (mNil))))) (mCons (mC (.bl true)) (mNil))))))))) (mCons (mVar 2) (mNil)))) (mNil))))))))))))))
theorem ok__law_books {P : Program} {w : World} {K : PySem.W.Frag} {mg : Str → Option Value} {base : Heap} {Tb : List (Addr × Str)} {C_BadBook C_BadText C_Reader : Addr} (T : Tx mg) (SB : SysB base) (ER : Ers P w K mg base Tb C_BadBook C_BadText C_Reader) (F : At K mg "_law_books" s__law_books) : Cal P w base ⟨K, mg, Lt, Tb⟩ "_law_books" 1 [] m__law_books := by
  refine cal_of (k := 0) F sc__law_books (fun _ _ _ _ _ _ us hl => match us, hl with | [], _ => rfl) fun f cdv A outer s H E hr => ?_
  exact ss_cons (ss_setT [0, 1] rfl rfl (pgs_names_cons (i := 0) sc__law_books.nd rfl (by first | exact Or.inl rfl | exact Or.inr rfl) (pgs_names_cons (i := 1) sc__law_books.nd rfl (by first | exact Or.inl rfl | exact Or.inr rfl) (pgs_names_nil))) (se_tup (sa_cons (se_tup (sa_cons (se_tup (sa_cons (se_int) (sa_cons (se_int) (sa_nil)))) (sa_cons (se_tup (sa_cons (se_int) (sa_cons (se_int) (sa_nil)))) (sa_nil)))) (sa_cons (se_tup (sa_cons (se_tup (sa_cons (se_int) (sa_nil))) (sa_cons (se_tup (sa_cons (se_int) (sa_nil))) (sa_nil)))) (sa_nil))))) (ss_cons (ss_set 2 sc__law_books.nd rfl (by first | exact Or.inl rfl | exact Or.inr rfl) (se_str)) (ss_cons (ss_own 3 (ps_set (i := 3) sc__law_books.nd rfl (by first | exact Or.inl rfl | exact Or.inr rfl) (sn_lst (sa_cons (se_tup (sa_cons (se_tup (sa_cons (se_int) (sa_cons (se_int) (sa_cons (se_int) (sa_cons (se_int) (sa_cons (se_tup (sa_cons (se_int) (sa_cons (se_int) (sa_nil)))) (sa_cons (se_tup (sa_cons (se_var 1) (sa_cons (se_var 0) (sa_nil)))) (sa_cons (se_bl) (sa_nil))))))))) (sa_cons (se_var 2) (sa_nil)))) (sa_nil))))) (ss_cons (ss_set 4 sc__law_books.nd rfl (by first | exact Or.inl rfl | exact Or.inr rfl) (se_tup (sa_cons (se_tup (sa_cons (se_int) (sa_cons (se_int) (sa_cons (se_int) (sa_cons (se_int) (sa_nil)))))) (sa_cons (se_tup (sa_cons (se_int) (sa_cons (se_int) (sa_nil)))) (sa_cons (se_tup (sa_cons (se_int) (sa_nil))) (sa_cons (se_tup (sa_cons (se_int) (sa_cons (se_int) (sa_cons (se_int) (sa_nil))))) (sa_nil))))))) (ss_cons (ss_set 2 sc__law_books.nd rfl (by first | exact Or.inl rfl | exact Or.inr rfl) (se_str)) (ss_cons (ss_app (ps_expr (pe_bm PySem.F.plainAttrs_list PySem.F.slot_list_append PySem.F.type_list_append mt_append (pv 3) (pa_cons (se_tup (sa_cons (se_tup (sa_cons (se_int) (sa_cons (se_int) (sa_cons (se_int) (sa_cons (se_int) (sa_cons (se_tup (sa_cons (se_int) (sa_nil))) (sa_cons (se_tup (sa_cons (se_var 4) (sa_nil))) (sa_cons (se_bl) (sa_nil))))))))) (sa_cons (se_var 2) (sa_nil)))) pa_nil)))) (ss_cons (ss_setT [5, 6] rfl rfl (pgs_names_cons (i := 5) sc__law_books.nd rfl (by first | exact Or.inl rfl | exact Or.inr rfl) (pgs_names_cons (i := 6) sc__law_books.nd rfl (by first | exact Or.inl rfl | exact Or.inr rfl) (pgs_names_nil))) (se_tup (sa_cons (se_tup (sa_cons (se_tup (sa_cons (se_int) (sa_cons (se_int) (sa_nil)))) (sa_cons (se_tup (sa_cons (se_int) (sa_cons (se_int) (sa_cons (se_int) (sa_nil))))) (sa_cons (se_tup (sa_cons (se_int) (sa_cons (se_int) (sa_nil)))) (sa_nil))))) (sa_cons (se_tup (sa_cons (se_tup (sa_cons (se_int) (sa_nil))) (sa_cons (se_tup (sa_cons (se_int) (sa_nil))) (sa_cons (se_tup (sa_cons (se_int) (sa_nil))) (sa_nil))))) (sa_nil))))) (ss_cons (ss_set 2 sc__law_books.nd rfl (by first | exact Or.inl rfl | exact Or.inr rfl) (se_str)) (ss_one (ss_ret (se_bin op_addA os_add (sp_var 3) (sp_of (se_new (sn_lst (sa_cons (se_tup (sa_cons (se_tup (sa_cons (se_int) (sa_cons (se_int) (sa_cons (se_int) (sa_cons (se_int) (sa_cons (se_tup (sa_cons (se_int) (sa_cons (se_int) (sa_cons (se_int) (sa_cons (se_int) (sa_cons (se_int) (sa_cons (se_int) (sa_nil)))))))) (sa_cons (se_tup (sa_cons (se_var 6) (sa_cons (se_var 5) (sa_cons (se_var 6) (sa_nil))))) (sa_cons (se_bl) (sa_nil))))))))) (sa_cons (se_var 2) (sa_nil)))) (sa_nil)))))))))))))))
theorem sc_is_choice : FnScope N_is_choice ["some", "thing"] (defScope s_is_choice) := ⟨rfl, rfl, rfl, by decide +kernel, rfl, by decide +kernel, by decide +kernel⟩
def m_is_choice : List D → G → R D := mDef 4 (mSeq (mIfS (mOrT (mNotT (mTst (mFn 3 m_is_tuple_of (mCons (mVar 1) (mCons (mC (.int 1)) (mCons (mBlt fLen (mCons (mPk 0) (mNil))) (mNil))))))) (mNotT (mTst (mBlt fAll (mCons (mNew (mComp [2] (mItT (mVar 1)) (bName 2) (mYes) (mFn 3 m_is_whole (mCons (mVar 2) (mCons (mC (.int 0)) (mCons (mC .non) (mNil))))))) (mNil)))))) (mRet (mC (.bl false))) (mSkip)) (mRet (mAndV (mBlt fAll (mCons (mNew (mComp [2] (mItT (mVar 1)) (bName 2) (mYes) (mBin fIn (mPk 2) (mPk 0)))) (mNil))) (mBlt fAll (mCons (mNew (mComp [2, 3] (mZip (mVar 1) (mSl (mPk 1) (mPart (mC (.int 1))) (mNo))) (bTup [2, 3]) (mYes) (mBin fLt (mPk 2) (mPk 3)))) (mNil))))))
theorem ok_is_choice {P : Program} {w : World} {K : PySem.W.Frag} {mg : Str → Option Value} {base : Heap} {Tb : List (Addr × Str)} {C_BadBook C_BadText C_Reader : Addr} (T : Tx mg) (SB : SysB base) (ER : Ers P w K mg base Tb C_BadBook C_BadText C_Reader) (F : At K mg "is_choice" s_is_choice) (C_is_tuple_of : Cal P w base ⟨K, mg, Lt, Tb⟩ "is_tuple_of" 1 ["thing", "least", "most"] m_is_tuple_of) (C_is_whole : Cal P w base ⟨K, mg, Lt, Tb⟩ "is_whole" 1 ["thing", "least", "most"] m_is_whole) : Cal P w base ⟨K, mg, Lt, Tb⟩ "is_choice" 2 ["some", "thing"] m_is_choice := by
  have b_len := T.b_len
  have b_all := T.b_all
  have b_zip := T.b_zip
  obtain ⟨f_is_tuple_of, fd_is_tuple_of, G_is_tuple_of, g_is_tuple_of, k_is_tuple_of, B_is_tuple_of⟩ := C_is_tuple_of
  obtain ⟨f_is_whole, fd_is_whole, G_is_whole, g_is_whole, k_is_whole, B_is_whole⟩ := C_is_whole
  refine cal_of (k := 1) F sc_is_choice (fun _ _ _ _ _ _ us hl => match us, hl with | [_, _], _ => rfl) fun f cdv A outer s H E hr => ?_
  exact ss_cons (ss_if (PW.pt (st_or (st_not (st_val (se_call G_is_tuple_of (hr.mono (by decide)) g_is_tuple_of k_is_tuple_of B_is_tuple_of (takes_of rfl rfl rfl rfl) rfl (sa_cons (se_var 1) (sa_cons (se_int) (sa_cons (se_blt call_lenA cs_len rfl b_len bb_len (pa_consP (sp_var 0) (pa_nilP))) (sa_nil))))))) (st_or1 (st_not (st_val (se_blt (cr_all rfl) cs_all rfl b_all bb_all (pa_consP (sp_of (se_new (sn_comp (own := [("one", 2)]) rfl sc_is_choice.nd (siq (si_tup rfl (se_var 1))) (blkOk_by (N := N_is_choice) (sc := defScope s_is_choice) (by decide +kernel)) (bs_name 2) (by decide) (fun _ _ _ _ _ => pg_name (i := 2) sc_is_choice.nd rfl (by first | exact Or.inl rfl | exact Or.inr rfl)) (fun _ _ _ _ _ => pts_nilS) (fun _ _ _ _ _ => se_call G_is_whole (hr.mono (by decide)) g_is_whole k_is_whole B_is_whole takes0 rfl (sa_cons (se_var 2) (sa_cons (se_int) (sa_cons (se_non) (sa_nil)))))))) (pa_nilP)))))))) (ss_one (ss_ret (se_bl))) (ss_nil)) (ss_one (ss_ret (se_and (se_blt (cr_all rfl) cs_all rfl b_all bb_all (pa_consP (sp_of (se_new (sn_comp (own := [("one", 2)]) rfl sc_is_choice.nd (siq (si_tup rfl (se_var 1))) (blkOk_by (N := N_is_choice) (sc := defScope s_is_choice) (by decide +kernel)) (bs_name 2) (by decide) (fun _ _ _ _ _ => pg_name (i := 2) sc_is_choice.nd rfl (by first | exact Or.inl rfl | exact Or.inr rfl)) (fun _ _ _ _ _ => pts_nilS) (fun _ _ _ _ _ => se_cmp (op_inA (hu65 hr)) os_in.s (sp_var 2) (sp_var 0))))) (pa_nilP))) (se_one (se_blt (cr_all rfl) cs_all rfl b_all bb_all (pa_consP (sp_of (se_new (sn_comp (own := [("one", 2), ("other", 3)]) rfl sc_is_choice.nd (siq (si_zip rfl rfl b_zip (se_var 1) (se_slice rfl (sp_var 1) (so_some (se_int)) (so_none)))) (blkOk_by (N := N_is_choice) (sc := defScope s_is_choice) (by decide +kernel)) (bs_tup [2, 3]) (by decide) (fun _ _ _ _ _ => pg_tup rfl (pgs_names_cons (i := 2) sc_is_choice.nd rfl (by first | exact Or.inl rfl | exact Or.inr rfl) (pgs_names_cons (i := 3) sc_is_choice.nd rfl (by first | exact Or.inl rfl | exact Or.inr rfl) (pgs_names_nil)))) (fun _ _ _ _ _ => pts_nilS) (fun _ _ _ _ _ => se_cmp (op_ltA (hu0 hr)) os_lt.s (sp_var 2) (sp_var 3))))) (pa_nilP)))))))
theorem sc_numbers_fault : FnScope N_numbers_fault ["thing"] (defScope s_numbers_fault) := ⟨rfl, rfl, rfl, by decide +kernel, rfl, by decide +kernel, by decide +kernel⟩
def m_numbers_fault : List D → G → R D := mDef 5 (mSeq (mAsg (mSl (mPk 0) (mNo) (mPart (mC (.int 4)))) (bTup [1, 2, 3, 4])) (mSeq (mIfS (mNotT (mTst (mFn 3 m_is_whole (mCons (mVar 1) (mCons (mC (.int 1)) (mCons (mC (.int 3)) (mNil))))))) (mRet (mTup (mCons (mC (.str "top")) (mCons (mC .non) (mNil))))) (mSkip)) (mSeq (mIfS (mNotT (mTst (mFn 3 m_is_whole (mCons (mVar 2) (mCons (mC (.int 1)) (mCons (mVar 1) (mNil))))))) (mRet (mTup (mCons (mC (.str "up")) (mCons (mC .non) (mNil))))) (mSkip)) (mSeq (mIfS (mNotT (mTst (mFn 3 m_is_whole (mCons (mVar 3) (mCons (mC (.int 1)) (mCons (mVar 1) (mNil))))))) (mRet (mTup (mCons (mC (.str "down")) (mCons (mC .non) (mNil))))) (mSkip)) (mRet (mIf (mTst (mFn 3 m_is_whole (mCons (mVar 4) (mCons (mC (.int 0)) (mCons (mC (.int 9)) (mNil)))))) (mC .non) (mTup (mCons (mC (.str "least")) (mCons (mC .non) (mNil))))))))))
theorem ok_numbers_fault {P : Program} {w : World} {K : PySem.W.Frag} {mg : Str → Option Value} {base : Heap} {Tb : List (Addr × Str)} {C_BadBook C_BadText C_Reader : Addr} (T : Tx mg) (SB : SysB base) (ER : Ers P w K mg base Tb C_BadBook C_BadText C_Reader) (F : At K mg "numbers_fault" s_numbers_fault) (C_is_whole : Cal P w base ⟨K, mg, Lt, Tb⟩ "is_whole" 1 ["thing", "least", "most"] m_is_whole) : Cal P w base ⟨K, mg, Lt, Tb⟩ "numbers_fault" 2 ["thing"] m_numbers_fault := by
  obtain ⟨t_MOST_TOP, c_MOST_TOP⟩ := T.c_MOST_TOP
  obtain ⟨t_MOST_LEAST, c_MOST_LEAST⟩ := T.c_MOST_LEAST
  obtain ⟨f_is_whole, fd_is_whole, G_is_whole, g_is_whole, k_is_whole, B_is_whole⟩ := C_is_whole
  refine cal_of (k := 1) F sc_numbers_fault (fun _ _ _ _ _ _ us hl => match us, hl with | [_], _ => rfl) fun f cdv A outer s H E hr => ?_
  exact ss_cons (ss_setT [1, 2, 3, 4] rfl rfl (pgs_names_cons (i := 1) sc_numbers_fault.nd rfl (by first | exact Or.inl rfl | exact Or.inr rfl) (pgs_names_cons (i := 2) sc_numbers_fault.nd rfl (by first | exact Or.inl rfl | exact Or.inr rfl) (pgs_names_cons (i := 3) sc_numbers_fault.nd rfl (by first | exact Or.inl rfl | exact Or.inr rfl) (pgs_names_cons (i := 4) sc_numbers_fault.nd rfl (by first | exact Or.inl rfl | exact Or.inr rfl) (pgs_names_nil))))) (se_slice rfl (sp_var 0) (so_none) (so_some (se_int)))) (ss_cons (ss_if (st_not (st_val (se_call G_is_whole (hr.mono (by decide)) g_is_whole k_is_whole B_is_whole (takes_of rfl rfl rfl rfl) rfl (sa_cons (se_var 1) (sa_cons (se_int) (sa_cons (se_gint rfl c_MOST_TOP) (sa_nil))))))) (ss_one (ss_ret (se_tup (sa_cons (se_str) (sa_cons (se_non) (sa_nil)))))) (ss_nil)) (ss_cons (ss_if (st_not (st_val (se_call G_is_whole (hr.mono (by decide)) g_is_whole k_is_whole B_is_whole (takes_of rfl rfl rfl rfl) rfl (sa_cons (se_var 2) (sa_cons (se_int) (sa_cons (se_var 1) (sa_nil))))))) (ss_one (ss_ret (se_tup (sa_cons (se_str) (sa_cons (se_non) (sa_nil)))))) (ss_nil)) (ss_cons (ss_if (st_not (st_val (se_call G_is_whole (hr.mono (by decide)) g_is_whole k_is_whole B_is_whole (takes_of rfl rfl rfl rfl) rfl (sa_cons (se_var 3) (sa_cons (se_int) (sa_cons (se_var 1) (sa_nil))))))) (ss_one (ss_ret (se_tup (sa_cons (se_str) (sa_cons (se_non) (sa_nil)))))) (ss_nil)) (ss_one (ss_ret (se_if (st_val (se_call G_is_whole (hr.mono (by decide)) g_is_whole k_is_whole B_is_whole (takes_of rfl rfl rfl rfl) rfl (sa_cons (se_var 4) (sa_cons (se_int) (sa_cons (se_gint rfl c_MOST_LEAST) (sa_nil)))))) (se_non) (se_tup (sa_cons (se_str) (sa_cons (se_non) (sa_nil))))))))))
theorem sc_choice_in : FnScope N_choice_in ["word"] (defScope s_choice_in) := ⟨rfl, rfl, rfl, by decide +kernel, rfl, by decide +kernel, by decide +kernel⟩
def m_choice_in : List D → G → R D := mDef 3 (mSeq (mAsg (mBlt fTuple (mCons (mNew (mComp [2] (mItB (mM1 fSplit (mPk 0) (mC (.str ",")))) (bName 2) (mYes) (mFn 1 m_number_in (mCons (mVar 2) (mNil))))) (mNil))) (bName 1)) (mRet (mIf (mTst (mBin fIn (mC .non) (mPk 1))) (mC .non) (mVar 1))))
theorem ok_choice_in {P : Program} {w : World} {K : PySem.W.Frag} {mg : Str → Option Value} {base : Heap} {Tb : List (Addr × Str)} {C_BadBook C_BadText C_Reader : Addr} (T : Tx mg) (SB : SysB base) (ER : Ers P w K mg base Tb C_BadBook C_BadText C_Reader) (F : At K mg "choice_in" s_choice_in) (C_number_in : Cal P w base ⟨K, mg, Lt, Tb⟩ "number_in" 1 ["word"] m_number_in) : Cal P w base ⟨K, mg, Lt, Tb⟩ "choice_in" 2 ["word"] m_choice_in := by
  have b_tuple := T.b_tuple
  obtain ⟨t_COMMA, c_COMMA⟩ := T.c_COMMA
  obtain ⟨f_number_in, fd_number_in, G_number_in, g_number_in, k_number_in, B_number_in⟩ := C_number_in
  refine cal_of (k := 1) F sc_choice_in (fun _ _ _ _ _ _ us hl => match us, hl with | [_], _ => rfl) fun f cdv A outer s H E hr => ?_
  exact ss_cons (ss_set 1 sc_choice_in.nd rfl (by first | exact Or.inl rfl | exact Or.inr rfl) (se_ty call_tupleA cs_tuple rfl b_tuple bb_tuple (pa_consP (sp_of (se_new (sn_comp (own := [("one", 2)]) rfl sc_choice_in.nd (siq (si_anyD rfl (se_split (sp_var 0) (sp_of (se_gstr rfl c_COMMA))))) (blkOk_by (N := N_choice_in) (sc := defScope s_choice_in) (by decide +kernel)) (bs_name 2) (by decide) (fun _ _ _ _ _ => pg_name (i := 2) sc_choice_in.nd rfl (by first | exact Or.inl rfl | exact Or.inr rfl)) (fun _ _ _ _ _ => pts_nilS) (fun _ _ _ _ _ => se_call G_number_in (hr.mono (by decide)) g_number_in k_number_in B_number_in takes0 rfl (sa_cons (se_var 2) (sa_nil)))))) (pa_nilP)))) (ss_one (ss_ret (se_if (st_cmp (op_inA (hu65 hr)) os_in.s (sp_of (se_non)) (sp_var 1)) (se_non) (se_var 1))))
theorem sc_is_row : FnScope N_is_row ["top", "up", "down", "thing"] (defScope s_is_row) := ⟨rfl, rfl, rfl, by decide +kernel, rfl, by decide +kernel, by decide +kernel⟩
def m_is_row : List D → G → R D := mDef 6 (mSeq (mIfS (mNotT (mTst (mFn 3 m_is_tuple_of (mCons (mVar 3) (mCons (mBin fAdd (mPk 0) (mC (.int 1))) (mCons (mBin fAdd (mPk 0) (mC (.int 1))) (mNil))))))) (mRet (mC (.bl false))) (mSkip)) (mRet (mBlt fAll (mCons (mNew (mComp [4, 5] (mEnT (mVar 3)) (bTup [4, 5]) (mYes) (mFn 2 m_is_choice (mCons (mFn 4 m_follows_in (mCons (mVar 0) (mCons (mVar 1) (mCons (mVar 2) (mCons (mVar 4) (mNil)))))) (mCons (mVar 5) (mNil)))))) (mNil)))))
theorem ok_is_row {P : Program} {w : World} {K : PySem.W.Frag} {mg : Str → Option Value} {base : Heap} {Tb : List (Addr × Str)} {C_BadBook C_BadText C_Reader : Addr} (T : Tx mg) (SB : SysB base) (ER : Ers P w K mg base Tb C_BadBook C_BadText C_Reader) (F : At K mg "is_row" s_is_row) (C_is_tuple_of : Cal P w base ⟨K, mg, Lt, Tb⟩ "is_tuple_of" 1 ["thing", "least", "most"] m_is_tuple_of) (C_is_choice : Cal P w base ⟨K, mg, Lt, Tb⟩ "is_choice" 2 ["some", "thing"] m_is_choice) (C_follows_in : Cal P w base ⟨K, mg, Lt, Tb⟩ "follows_in" 1 ["top", "up", "down", "speed"] m_follows_in) : Cal P w base ⟨K, mg, Lt, Tb⟩ "is_row" 3 ["top", "up", "down", "thing"] m_is_row := by
  have b_all := T.b_all
  have b_enumerate := T.b_enumerate
  obtain ⟨f_is_tuple_of, fd_is_tuple_of, G_is_tuple_of, g_is_tuple_of, k_is_tuple_of, B_is_tuple_of⟩ := C_is_tuple_of
  obtain ⟨f_is_choice, fd_is_choice, G_is_choice, g_is_choice, k_is_choice, B_is_choice⟩ := C_is_choice
  obtain ⟨f_follows_in, fd_follows_in, G_follows_in, g_follows_in, k_follows_in, B_follows_in⟩ := C_follows_in
  refine cal_of (k := 2) F sc_is_row (fun _ _ _ _ _ _ us hl => match us, hl with | [_, _, _, _], _ => rfl) fun f cdv A outer s H E hr => ?_
  exact ss_cons (ss_if (st_not (st_val (se_call G_is_tuple_of (hr.mono (by decide)) g_is_tuple_of k_is_tuple_of B_is_tuple_of (takes_of rfl rfl rfl rfl) rfl (sa_cons (se_var 3) (sa_cons (se_bin op_addA os_add (sp_var 0) (sp_of (se_int))) (sa_cons (se_bin op_addA os_add (sp_var 0) (sp_of (se_int))) (sa_nil))))))) (ss_one (ss_ret (se_bl))) (ss_nil)) (ss_one (ss_ret (se_blt (cr_all rfl) cs_all rfl b_all bb_all (pa_consP (sp_of (se_new (sn_comp (own := [("speed", 4), ("some", 5)]) rfl sc_is_row.nd (siq (si_enT rfl b_enumerate (se_var 3))) (blkOk_by (N := N_is_row) (sc := defScope s_is_row) (by decide +kernel)) (bs_tup [4, 5]) (by decide) (fun _ _ _ _ _ => pg_tup rfl (pgs_names_cons (i := 4) sc_is_row.nd rfl (by first | exact Or.inl rfl | exact Or.inr rfl) (pgs_names_cons (i := 5) sc_is_row.nd rfl (by first | exact Or.inl rfl | exact Or.inr rfl) (pgs_names_nil)))) (fun _ _ _ _ _ => pts_nilS) (fun _ _ _ _ _ => se_call G_is_choice (hr.mono (by decide)) g_is_choice k_is_choice B_is_choice takes0 rfl (sa_cons (se_call G_follows_in (hr.mono (by decide)) g_follows_in k_follows_in B_follows_in takes0 rfl (sa_cons (se_var 0) (sa_cons (se_var 1) (sa_cons (se_var 2) (sa_cons (se_var 4) (sa_nil)))))) (sa_cons (se_var 5) (sa_nil))))))) (pa_nilP)))))
theorem sc_Reader_need : FnScope N_Reader_need ["self", "word", "many", "is_row"] (defScope s_Reader_need) := ⟨rfl, rfl, rfl, by decide +kernel, rfl, by decide +kernel, by decide +kernel⟩
def m_Reader_need : List D → G → R D := mDef 7 (mSeq (mAsg (mNew (mItems (mNil))) (bName 4)) (mSeq (mIfS (mTst (mMeth "Reader" "has_word" 2 m_Reader_has_word (mVar 0) (mCons (mVar 1) (mNil)))) (mSeq (mAsg (mSl (mM1 fSplit (mBin fIx (mFld "Reader" "reader_lines" (mVar 0)) (mFld "Reader" "reader_at" (mVar 0))) (mC (.str " "))) (mPart (mC (.int 1))) (mNo)) (bName 5)) (mAsg (mNew (mComp [6] (mItB (mVar 5)) (bName 6) (mYes) (mIf (mTst (mVar 3)) (mFn 1 m_choice_in (mCons (mVar 6) (mNil))) (mFn 1 m_number_in (mCons (mVar 6) (mNil)))))) (bName 4))) (mSkip)) (mSeq (mIfS (mOrT (mTst (mBin fEq (mPk 4) (mNew (mItems (mNil))))) (mOrT (mTst (mBin fIn (mC .non) (mPk 4))) (mTst (mBin fNotIn (mPk 2) (mTup (mCons (mC (.int 0)) (mCons (mBlt fLen (mCons (mPk 4) (mNil))) (mNil)))))))) (mRaise "BadText" ["place"] (mCons (mFld "Reader" "reader_at" (mVar 0)) (mNil))) (mSkip)) (mSeq (mAugF "Reader" "reader_at" (mVar 0) (mC (.int 1))) (mRet (mBlt fTuple (mCons (mPk 4) (mNil))))))))
theorem ok_Reader_need {P : Program} {w : World} {K : PySem.W.Frag} {mg : Str → Option Value} {base : Heap} {Tb : List (Addr × Str)} {C_BadBook C_BadText C_Reader : Addr} (T : Tx mg) (SB : SysB base) (ER : Ers P w K mg base Tb C_BadBook C_BadText C_Reader) (F : AtM K C_Reader "need" "Reader.need" s_Reader_need) (C_Reader_has_word : CalM P w base ⟨K, mg, Lt, Tb⟩ "Reader" "has_word" C_Reader 1 ["self", "word"] m_Reader_has_word) (C_choice_in : Cal P w base ⟨K, mg, Lt, Tb⟩ "choice_in" 2 ["word"] m_choice_in) (C_number_in : Cal P w base ⟨K, mg, Lt, Tb⟩ "number_in" 1 ["word"] m_number_in) : CalM P w base ⟨K, mg, Lt, Tb⟩ "Reader" "need" C_Reader 3 ["self", "word", "many", "is_row"] m_Reader_need := by
  have b_len := T.b_len
  have b_tuple := T.b_tuple
  obtain ⟨f_Reader_has_word, fd_Reader_has_word, G_Reader_has_word, M_Reader_has_word, B_Reader_has_word⟩ := C_Reader_has_word
  obtain ⟨f_choice_in, fd_choice_in, G_choice_in, g_choice_in, k_choice_in, B_choice_in⟩ := C_choice_in
  obtain ⟨f_number_in, fd_number_in, G_number_in, g_number_in, k_number_in, B_number_in⟩ := C_number_in
  have O_Reader := ER.o_Reader
  have n_Reader_reader_lines := ER.n_Reader_reader_lines
  have n_Reader_reader_at := ER.n_Reader_reader_at
  have E_BadText := ER.e_BadText
  refine calm_of (k := 2) F sc_Reader_need (fun _ _ _ _ _ _ us hl => match us, hl with | [_, _, _, _], _ => rfl) fun f cdv A outer s H E hr => ?_
  exact ss_cons (ss_set 4 sc_Reader_need.nd rfl (by first | exact Or.inl rfl | exact Or.inr rfl) (se_new (sn_lst (sa_nil)))) (ss_cons (ss_if (st_val (se_meth rfl O_Reader G_Reader_has_word M_Reader_has_word (hr.mono (by decide)) B_Reader_has_word (takes_of rfl rfl rfl rfl) (se_var 0) (sa_cons (se_var 1) (sa_nil)))) (ss_cons (ss_set 5 sc_Reader_need.nd rfl (by first | exact Or.inl rfl | exact Or.inr rfl) (se_slice rfl (sp_of (se_split (sp_of (se_ix rfl (hu1 hr) (sp_of (se_fld rfl O_Reader n_Reader_reader_lines (se_var 0))) (sp_of (se_fld rfl O_Reader n_Reader_reader_at (se_var 0))) (fun _ _ => rfl))) (sp_of (se_str)))) (so_some (se_int)) (so_none))) (ss_one (ss_val (ss_comp (i := 4) (own := [("one", 6)]) rfl sc_Reader_need.nd rfl rfl (sw_true rfl rfl rfl (by decide +kernel)) (siq (si_anyD rfl (se_var 5))) (blkOk_by (N := N_Reader_need) (sc := defScope s_Reader_need) (by decide +kernel)) (bs_name 6) (by decide) (fun _ _ _ _ _ => pg_name (i := 6) sc_Reader_need.nd rfl (by first | exact Or.inl rfl | exact Or.inr rfl)) (fun _ _ _ _ _ => pts_nilS) (fun _ _ _ _ _ => se_if (st_val (se_var 3)) (se_call G_choice_in (hr.mono (by decide)) g_choice_in k_choice_in B_choice_in takes0 rfl (sa_cons (se_var 6) (sa_nil))) (se_call G_number_in (hr.mono (by decide)) g_number_in k_number_in B_number_in takes0 rfl (sa_cons (se_var 6) (sa_nil)))))))) (ss_nil)) (ss_cons (ss_if (PW.pt (st_or (st_cmp (op_eqD (hu64 hr)) os_eq.s (sp_var 4) (sp_of (se_new (sn_lst (sa_nil))))) (st_or (st_cmp (op_inA (hu65 hr)) os_in.s (sp_of (se_non)) (sp_var 4)) (st_or1 (st_cmp (op_notInA (hu65 hr)) os_notIn.s (sp_var 2) (sp_of (se_tup (sa_cons (se_int) (sa_cons (se_blt call_lenA cs_len rfl b_len bb_len (pa_consP (sp_var 4) (pa_nilP))) (sa_nil)))))))))) (ss_one (ss_raise rfl rfl E_BadText (hr.mono (by decide)).toRoom rfl rfl (takes_of rfl rfl rfl rfl) (sa_cons (se_fld rfl O_Reader n_Reader_reader_at (se_var 0)) (sa_nil)))) (ss_nil)) (ss_cons (ss_fldaug rfl O_Reader n_Reader_reader_at (se_var 0) (se_int)) (ss_one (ss_ret (se_ty call_tupleA cs_tuple rfl b_tuple bb_tuple (pa_consP (sp_var 4) (pa_nilP))))))))
theorem sc_Reader_need_last : FnScope N_Reader_need_last ["self"] (defScope s_Reader_need_last) := ⟨rfl, rfl, rfl, by decide +kernel, rfl, by decide +kernel, by decide +kernel⟩
def m_Reader_need_last : List D → G → R D := mDef 2 (mSeq (mAsg (mIf (mTst (mBin fLt (mFld "Reader" "reader_at" (mVar 0)) (mBlt fLen (mCons (mFld "Reader" "reader_lines" (mVar 0)) (mNil))))) (mBin fIx (mFld "Reader" "reader_lines" (mVar 0)) (mFld "Reader" "reader_at" (mVar 0))) (mC (.str ""))) (bName 1)) (mSeq (mIfS (mTst (mBin fNotIn (mPk 1) (mTup (mCons (mFn 2 m_line_of (mCons (mC (.str "late")) (mCons (mNew (mItems (mCons (mC (.str "yes")) (mNil)))) (mNil)))) (mCons (mFn 2 m_line_of (mCons (mC (.str "late")) (mCons (mNew (mItems (mCons (mC (.str "no")) (mNil)))) (mNil)))) (mNil)))))) (mRaise "BadText" ["place"] (mCons (mFld "Reader" "reader_at" (mVar 0)) (mNil))) (mSkip)) (mSeq (mIfS (mTst (mBin fLt (mBin fAdd (mFld "Reader" "reader_at" (mVar 0)) (mC (.int 1))) (mBlt fLen (mCons (mFld "Reader" "reader_lines" (mVar 0)) (mNil))))) (mRaise "BadText" ["place"] (mCons (mBin fAdd (mFld "Reader" "reader_at" (mVar 0)) (mC (.int 1))) (mNil))) (mSkip)) (mRet (mBin fEq (mPk 1) (mFn 2 m_line_of (mCons (mC (.str "late")) (mCons (mNew (mItems (mCons (mC (.str "yes")) (mNil)))) (mNil)))))))))
theorem ok_Reader_need_last {P : Program} {w : World} {K : PySem.W.Frag} {mg : Str → Option Value} {base : Heap} {Tb : List (Addr × Str)} {C_BadBook C_BadText C_Reader : Addr} (T : Tx mg) (SB : SysB base) (ER : Ers P w K mg base Tb C_BadBook C_BadText C_Reader) (F : AtM K C_Reader "need_last" "Reader.need_last" s_Reader_need_last) (C_line_of : Cal P w base ⟨K, mg, Lt, Tb⟩ "line_of" 1 ["word", "some"] m_line_of) : CalM P w base ⟨K, mg, Lt, Tb⟩ "Reader" "need_last" C_Reader 3 ["self"] m_Reader_need_last := by
  have b_len := T.b_len
  obtain ⟨t_NO, c_NO⟩ := T.c_NO
  obtain ⟨t_LATE_texts, c_LATE_texts⟩ := T.c_LATE_texts
  obtain ⟨t_YES, c_YES⟩ := T.c_YES
  obtain ⟨f_line_of, fd_line_of, G_line_of, g_line_of, k_line_of, B_line_of⟩ := C_line_of
  have O_Reader := ER.o_Reader
  have n_Reader_reader_at := ER.n_Reader_reader_at
  have n_Reader_reader_lines := ER.n_Reader_reader_lines
  have E_BadText := ER.e_BadText
  refine calm_of (k := 2) F sc_Reader_need_last (fun _ _ _ _ _ _ us hl => match us, hl with | [_], _ => rfl) fun f cdv A outer s H E hr => ?_
  exact ss_cons (ss_set 1 sc_Reader_need_last.nd rfl (by first | exact Or.inl rfl | exact Or.inr rfl) (se_if (st_cmp (op_ltA (hu0 hr)) os_lt.s (sp_of (se_fld rfl O_Reader n_Reader_reader_at (se_var 0))) (sp_of (se_blt call_lenA cs_len rfl b_len bb_len (pa_consP (sp_of (se_fld rfl O_Reader n_Reader_reader_lines (se_var 0))) (pa_nilP))))) (se_ix rfl (hu1 hr) (sp_of (se_fld rfl O_Reader n_Reader_reader_lines (se_var 0))) (sp_of (se_fld rfl O_Reader n_Reader_reader_at (se_var 0))) (fun _ _ => rfl)) (se_str))) (ss_cons (ss_if (st_cmp (op_notInA (hu65 hr)) os_notIn.s (sp_var 1) (sp_of (se_tup (sa_cons (se_call G_line_of (hr.mono (by decide)) g_line_of k_line_of B_line_of (takes_of rfl rfl rfl rfl) rfl (sa_cons (se_gstr rfl c_LATE_texts) (sa_cons (se_new (sn_lst (sa_cons (se_gstr rfl c_YES) (sa_nil)))) (sa_nil)))) (sa_cons (se_call G_line_of (hr.mono (by decide)) g_line_of k_line_of B_line_of (takes_of rfl rfl rfl rfl) rfl (sa_cons (se_gstr rfl c_LATE_texts) (sa_cons (se_new (sn_lst (sa_cons (se_gstr rfl c_NO) (sa_nil)))) (sa_nil)))) (sa_nil)))))) (ss_one (ss_raise rfl rfl E_BadText (hr.mono (by decide)).toRoom rfl rfl (takes_of rfl rfl rfl rfl) (sa_cons (se_fld rfl O_Reader n_Reader_reader_at (se_var 0)) (sa_nil)))) (ss_nil)) (ss_cons (ss_if (st_cmp (op_ltA (hu0 hr)) os_lt.s (sp_of (se_bin op_addA os_add (sp_of (se_fld rfl O_Reader n_Reader_reader_at (se_var 0))) (sp_of (se_int)))) (sp_of (se_blt call_lenA cs_len rfl b_len bb_len (pa_consP (sp_of (se_fld rfl O_Reader n_Reader_reader_lines (se_var 0))) (pa_nilP))))) (ss_one (ss_raise rfl rfl E_BadText (hr.mono (by decide)).toRoom rfl rfl (takes_of rfl rfl rfl rfl) (sa_cons (se_bin op_addA os_add (sp_of (se_fld rfl O_Reader n_Reader_reader_at (se_var 0))) (sp_of (se_int))) (sa_nil)))) (ss_nil)) (ss_one (ss_ret (se_cmp (op_eqD (hu64 hr)) os_eq.s (sp_var 1) (sp_of (se_call G_line_of (hr.mono (by decide)) g_line_of k_line_of B_line_of (takes_of rfl rfl rfl rfl) rfl (sa_cons (se_gstr rfl c_LATE_texts) (sa_cons (se_new (sn_lst (sa_cons (se_gstr rfl c_YES) (sa_nil)))) (sa_nil))))))))))
def m_lam_0 : ME := mFn 4 m_is_row (mCons (mVar 2) (mCons (mVar 1) (mCons (mVar 3) (mCons (mVar 0) (mNil)))))
theorem lok_0 {P : Program} {w : World} {K : PySem.W.Frag} {mg : Str → Option Value} {base : Heap} {Tb : List (Addr × Str)} {C_BadBook C_BadText C_Reader : Addr} (T : Tx mg) (SB : SysB base) (ER : Ers P w K mg base Tb C_BadBook C_BadText C_Reader) (C_is_row : Cal P w base ⟨K, mg, Lt, Tb⟩ "is_row" 3 ["top", "up", "down", "thing"] m_is_row) : LamOk P w base ⟨K, mg, Lt, Tb⟩ 3 0 ["row"] m_lam_0 := by
  obtain ⟨f_is_row, fd_is_row, G_is_row, g_is_row, k_is_row, B_is_row⟩ := C_is_row
  exact ⟨(show LamSc lam_0.scope ["row"] lam_0.caps from lamSc_by (by decide +kernel)), bind_none (L := lam_0) rfl (fun cl pm cv ct us hl => match us, hl with | [_], _ => rfl), fun A outer s H E f c' cl hr => se_call G_is_row (hr.mono (by decide)) g_is_row k_is_row B_is_row (takes_of rfl rfl rfl rfl) rfl (sa_cons (se_var 2) (sa_cons (se_var 1) (sa_cons (se_var 3) (sa_cons (se_var 0) (sa_nil)))))⟩
def m_lam_1 : ME := mFn 3 m_is_whole (mCons (mVar 0) (mCons (mC (.int 0)) (mCons (mBin fSub (mPk 1) (mC (.int 1))) (mNil))))
theorem lok_1 {P : Program} {w : World} {K : PySem.W.Frag} {mg : Str → Option Value} {base : Heap} {Tb : List (Addr × Str)} {C_BadBook C_BadText C_Reader : Addr} (T : Tx mg) (SB : SysB base) (ER : Ers P w K mg base Tb C_BadBook C_BadText C_Reader) (C_is_whole : Cal P w base ⟨K, mg, Lt, Tb⟩ "is_whole" 1 ["thing", "least", "most"] m_is_whole) : LamOk P w base ⟨K, mg, Lt, Tb⟩ 3 1 ["aspect"] m_lam_1 := by
  obtain ⟨f_is_whole, fd_is_whole, G_is_whole, g_is_whole, k_is_whole, B_is_whole⟩ := C_is_whole
  exact ⟨(show LamSc lam_1.scope ["aspect"] lam_1.caps from lamSc_by (by decide +kernel)), bind_none (L := lam_1) rfl (fun cl pm cv ct us hl => match us, hl with | [_], _ => rfl), fun A outer s H E f c' cl hr => se_call G_is_whole (hr.mono (by decide)) g_is_whole k_is_whole B_is_whole (takes_of rfl rfl rfl rfl) rfl (sa_cons (se_var 0) (sa_cons (se_int) (sa_cons (se_bin op_sub os_sub (sp_var 1) (sp_of (se_int))) (sa_nil))))⟩
def LF_first_fault : LFT := fun n => match n with
  | 0 => mLam 1 none m_lam_0
  | 1 => mLam 1 none m_lam_1
  | _ => fun _ _ _ => .stuck
theorem lam_all_first_fault {P : Program} {w : World} {K : PySem.W.Frag} {mg : Str → Option Value} {base : Heap} {Tb : List (Addr × Str)} {C_BadBook C_BadText C_Reader : Addr} (T : Tx mg) (SB : SysB base) (ER : Ers P w K mg base Tb C_BadBook C_BadText C_Reader) (C_is_row : Cal P w base ⟨K, mg, Lt, Tb⟩ "is_row" 3 ["top", "up", "down", "thing"] m_is_row) (C_is_whole : Cal P w base ⟨K, mg, Lt, Tb⟩ "is_whole" 1 ["thing", "least", "most"] m_is_whole) : LamAll P w base ⟨K, mg, Lt, Tb⟩ 3 LF_first_fault := fun n => match n with
  | 0 => .inl ⟨_, _, lok_0 T SB ER C_is_row, rfl⟩
  | 1 => .inl ⟨_, _, lok_1 T SB ER C_is_whole, rfl⟩
  | _ + 2 => .inr fun _ _ _ => rfl
theorem lat_0 {P : Program} {w : World} {K : PySem.W.Frag} {mg : Str → Option Value} {base : Heap} {Tb : List (Addr × Str)} {c Pt : Addr} (TB : LamX.TabB base mg c Pt) (hm : (Pt, ("book_fault.<locals>.<lambda>" : Str)) ∈ Tb) (hu : ∀ p ∈ Tb, p.1 = Pt → p.2 = ("book_fault.<locals>.<lambda>" : Str)) {f : Addr} {A : Around} {outer : List Env} {s : Shared} {H : Hp} {E : XK} :
    LamAt (cxOf (L2.CX P w) P w K mg base N_book_fault "book_fault" (defScope s_book_fault) f (.ref c) A outer s H E) ⟨K, mg, Lt, Tb⟩ 0 c Pt lam_0.params lam_0.body lam_0.scope := ⟨TB, rfl, hm, hu, rfl, rfl, rfl, rfl, rfl, (show ∀ y ∈ lam_0.scope.names, y.2 = .free → (defScope s_book_fault).names.lookup y.1 = some .cell ∨ (defScope s_book_fault).names.lookup y.1 = some .free by decide +kernel), (.no rfl), rfl, fun _ => rfl⟩
theorem lat_1 {P : Program} {w : World} {K : PySem.W.Frag} {mg : Str → Option Value} {base : Heap} {Tb : List (Addr × Str)} {c Pt : Addr} (TB : LamX.TabB base mg c Pt) (hm : (Pt, ("book_fault.<locals>.<lambda>" : Str)) ∈ Tb) (hu : ∀ p ∈ Tb, p.1 = Pt → p.2 = ("book_fault.<locals>.<lambda>" : Str)) {f : Addr} {A : Around} {outer : List Env} {s : Shared} {H : Hp} {E : XK} :
    LamAt (cxOf (L2.CX P w) P w K mg base N_book_fault "book_fault" (defScope s_book_fault) f (.ref c) A outer s H E) ⟨K, mg, Lt, Tb⟩ 1 c Pt lam_1.params lam_1.body lam_1.scope := ⟨TB, rfl, hm, hu, rfl, rfl, rfl, rfl, rfl, (show ∀ y ∈ lam_1.scope.names, y.2 = .free → (defScope s_book_fault).names.lookup y.1 = some .cell ∨ (defScope s_book_fault).names.lookup y.1 = some .free by decide +kernel), (.no rfl), rfl, fun _ => rfl⟩
theorem sc_first_fault : FnScope N_first_fault ["part", "thing", "most", "is_good"] (defScope s_first_fault) := ⟨rfl, rfl, rfl, by decide +kernel, rfl, by decide +kernel, by decide +kernel⟩
def m_first_fault : List D → G → R D := mDef 7 (mSeq (mIfS (mNotT (mTst (mFn 3 m_is_tuple_of (mCons (mVar 1) (mCons (mC (.int 1)) (mCons (mVar 2) (mNil))))))) (mRet (mTup (mCons (mVar 0) (mCons (mC .non) (mNil))))) (mSkip)) (mSeq (mAsg (mNew (mComp [5, 6] (mEnT (mVar 1)) (bTup [5, 6]) (mNotT (mTst (mCallV LF_first_fault 3 (mCons (mVar 6) (mNil))))) (mVar 5))) (bName 4)) (mRet (mIf (mTst (mBin fNe (mPk 4) (mNew (mItems (mNil))))) (mTup (mCons (mVar 0) (mCons (mBin fIx (mPk 4) (mC (.int 0))) (mNil)))) (mC .non)))))
theorem ok_first_fault {P : Program} {w : World} {K : PySem.W.Frag} {mg : Str → Option Value} {base : Heap} {Tb : List (Addr × Str)} {C_BadBook C_BadText C_Reader : Addr} (T : Tx mg) (SB : SysB base) (ER : Ers P w K mg base Tb C_BadBook C_BadText C_Reader) (F : At K mg "first_fault" s_first_fault) (C_is_tuple_of : Cal P w base ⟨K, mg, Lt, Tb⟩ "is_tuple_of" 1 ["thing", "least", "most"] m_is_tuple_of) (LA : LamAll P w base ⟨K, mg, Lt, Tb⟩ 3 LF_first_fault) : Cal P w base ⟨K, mg, Lt, Tb⟩ "first_fault" 5 ["part", "thing", "most", "is_good"] m_first_fault := by
  have b_enumerate := T.b_enumerate
  obtain ⟨f_is_tuple_of, fd_is_tuple_of, G_is_tuple_of, g_is_tuple_of, k_is_tuple_of, B_is_tuple_of⟩ := C_is_tuple_of
  refine cal_of (k := 4) F sc_first_fault (fun _ _ _ _ _ _ us hl => match us, hl with | [_, _, _, _], _ => rfl) fun f cdv A outer s H E hr => ?_
  exact ss_cons (ss_if (st_not (st_val (se_call G_is_tuple_of (hr.mono (by decide)) g_is_tuple_of k_is_tuple_of B_is_tuple_of (takes_of rfl rfl rfl rfl) rfl (sa_cons (se_var 1) (sa_cons (se_int) (sa_cons (se_var 2) (sa_nil))))))) (ss_one (ss_ret (se_tup (sa_cons (se_var 0) (sa_cons (se_non) (sa_nil)))))) (ss_nil)) (ss_cons (ss_val (ss_comp (i := 4) (own := [("number", 5), ("one", 6)]) rfl sc_first_fault.nd rfl rfl (sw_true rfl rfl rfl (by decide +kernel)) (siq (si_enT rfl b_enumerate (se_var 1))) (blkOk_by (N := N_first_fault) (sc := defScope s_first_fault) (by decide +kernel)) (bs_tup [5, 6]) (by decide) (fun _ _ _ _ _ => pg_tup rfl (pgs_names_cons (i := 5) sc_first_fault.nd rfl (by first | exact Or.inl rfl | exact Or.inr rfl) (pgs_names_cons (i := 6) sc_first_fault.nd rfl (by first | exact Or.inl rfl | exact Or.inr rfl) (pgs_names_nil)))) (fun _ _ _ _ _ => pts_oneS (st_not (st_val (se_callv 3 LA (hr.mono (by decide)) takes0 (sa_cons (se_var 6) (sa_nil)))))) (fun _ _ _ _ _ => se_var 5))) (ss_one (ss_ret (se_if (st_cmp (op_neD (hu64 hr)) os_ne.s (sp_var 4) (sp_of (se_new (sn_lst (sa_nil))))) (se_tup (sa_cons (se_var 0) (sa_cons (se_ix rfl (hu1 hr) (sp_var 4) (sp_of (se_int)) (fun _ _ => rfl)) (sa_nil)))) (se_non)))))
theorem sc_book_fault : FnScope N_book_fault ["thing"] (defScope s_book_fault) := ⟨rfl, rfl, rfl, by decide +kernel, rfl, by decide +kernel, by decide +kernel⟩
def m_book_fault : List D → G → R D := mDef 6 (mSeq (mIfS (mNotT (mTst (mFn 3 m_is_tuple_of (mCons (mVar 0) (mCons (mC (.int 7)) (mCons (mC (.int 7)) (mNil))))))) (mRet (mTup (mCons (mC (.str "form")) (mCons (mC .non) (mNil))))) (mSkip)) (mSeq (mAsg (mFn 1 m_numbers_fault (mCons (mVar 0) (mNil))) (bName 1)) (mSeq (mIfS (mTst (mBin fNotN (mPk 1) (mC .non))) (mRet (mVar 1)) (mSkip)) (mSeq (mAsg (mSl (mPk 0) (mNo) (mPart (mC (.int 3)))) (bTup [2, 3, 4])) (mSeq (mAsg (mLamCall 4 0 [3, 2, 4] m_first_fault (mCons (mC (.str "rules")) (mCons (mBin fIx (mPk 0) (mC (.int 5))) (mCons (mC (.int 6)) (mNil))))) (bName 1)) (mSeq (mIfS (mTst (mBin fNotN (mPk 1) (mC .non))) (mRet (mVar 1)) (mSkip)) (mSeq (mAsg (mBlt fLen (mCons (mBin fIx (mPk 0) (mC (.int 5))) (mNil))) (bName 5)) (mSeq (mAsg (mLamCall 4 1 [5] m_first_fault (mCons (mC (.str "looks")) (mCons (mBin fIx (mPk 0) (mC (.int 4))) (mCons (mC (.int 6)) (mNil))))) (bName 1)) (mSeq (mIfS (mTst (mBin fNotN (mPk 1) (mC .non))) (mRet (mVar 1)) (mSkip)) (mRet (mIf (mTst (mIsi tabBool (mBin fIx (mPk 0) (mC (.int 6))))) (mC .non) (mTup (mCons (mC (.str "late")) (mCons (mC .non) (mNil)))))))))))))))
theorem ok_book_fault {P : Program} {w : World} {K : PySem.W.Frag} {mg : Str → Option Value} {base : Heap} {Tb : List (Addr × Str)} {C_BadBook C_BadText C_Reader : Addr} (T : Tx mg) (SB : SysB base) (ER : Ers P w K mg base Tb C_BadBook C_BadText C_Reader) {c Pt : Addr} (TB : LamX.TabB base mg c Pt) (hmT : (Pt, ("book_fault.<locals>.<lambda>" : Str)) ∈ Tb) (huT : ∀ p ∈ Tb, p.1 = Pt → p.2 = ("book_fault.<locals>.<lambda>" : Str)) (F : AtC K mg "book_fault" s_book_fault c) (C_is_tuple_of : Cal P w base ⟨K, mg, Lt, Tb⟩ "is_tuple_of" 1 ["thing", "least", "most"] m_is_tuple_of) (C_numbers_fault : Cal P w base ⟨K, mg, Lt, Tb⟩ "numbers_fault" 2 ["thing"] m_numbers_fault) (C_first_fault : Cal P w base ⟨K, mg, Lt, Tb⟩ "first_fault" 5 ["part", "thing", "most", "is_good"] m_first_fault) : Cal P w base ⟨K, mg, Lt, Tb⟩ "book_fault" 6 ["thing"] m_book_fault := by
  have b_len := T.b_len
  have b_isinstance := T.b_isinstance
  have b_bool := T.b_bool
  obtain ⟨t_PARTS, c_PARTS⟩ := T.c_PARTS
  obtain ⟨t_MOST_ROWS, c_MOST_ROWS⟩ := T.c_MOST_ROWS
  obtain ⟨t_RULES, c_RULES⟩ := T.c_RULES
  obtain ⟨t_MOST_LOOKS, c_MOST_LOOKS⟩ := T.c_MOST_LOOKS
  obtain ⟨t_LOOKS_books, c_LOOKS_books⟩ := T.c_LOOKS_books
  obtain ⟨t_LATE_books, c_LATE_books⟩ := T.c_LATE_books
  obtain ⟨f_is_tuple_of, fd_is_tuple_of, G_is_tuple_of, g_is_tuple_of, k_is_tuple_of, B_is_tuple_of⟩ := C_is_tuple_of
  obtain ⟨f_numbers_fault, fd_numbers_fault, G_numbers_fault, g_numbers_fault, k_numbers_fault, B_numbers_fault⟩ := C_numbers_fault
  obtain ⟨f_first_fault, fd_first_fault, G_first_fault, g_first_fault, k_first_fault, B_first_fault⟩ := C_first_fault
  refine def_okC (k := 5) F sc_book_fault (fun _ _ _ _ _ _ us hl => match us, hl with | [_], _ => rfl) fun f A outer s H E hr => ?_
  exact ss_cons (ss_if (st_not (st_val (se_call G_is_tuple_of (hr.mono (by decide)) g_is_tuple_of k_is_tuple_of B_is_tuple_of (takes_of rfl rfl rfl rfl) rfl (sa_cons (se_var 0) (sa_cons (se_gint rfl c_PARTS) (sa_cons (se_gint rfl c_PARTS) (sa_nil))))))) (ss_one (ss_ret (se_tup (sa_cons (se_str) (sa_cons (se_non) (sa_nil)))))) (ss_nil)) (ss_cons (ss_set 1 sc_book_fault.nd rfl (by first | exact Or.inl rfl | exact Or.inr rfl) (se_call G_numbers_fault (hr.mono (by decide)) g_numbers_fault k_numbers_fault B_numbers_fault (takes_of rfl rfl rfl rfl) rfl (sa_cons (se_var 0) (sa_nil)))) (ss_cons (ss_if (st_cmp op_notN os_notN.s (sp_var 1) (sp_of (se_non))) (ss_one (ss_ret (se_var 1))) (ss_nil)) (ss_cons (ss_setT [2, 3, 4] rfl rfl (pgs_names_cons (i := 2) sc_book_fault.nd rfl (by first | exact Or.inl rfl | exact Or.inr rfl) (pgs_names_cons (i := 3) sc_book_fault.nd rfl (by first | exact Or.inl rfl | exact Or.inr rfl) (pgs_names_cons (i := 4) sc_book_fault.nd rfl (by first | exact Or.inl rfl | exact Or.inr rfl) (pgs_names_nil)))) (se_slice rfl (sp_var 0) (so_none) (so_some (se_int)))) (ss_cons (ss_set 1 sc_book_fault.nd rfl (by first | exact Or.inl rfl | exact Or.inr rfl) (se_lamcall [3, 2, 4] G_first_fault (hr.mono (by decide)) g_first_fault k_first_fault B_first_fault (takes_of rfl rfl rfl rfl) rfl (lat_0 TB hmT huT) (sal_cons (se_str) (sal_cons (se_ix rfl (hu1 hr) (sp_var 0) (sp_of (se_gint rfl c_RULES)) (fun _ _ => rfl)) (sal_cons (se_gint rfl c_MOST_ROWS) (sal_one (lat_0 TB hmT huT))))))) (ss_cons (ss_if (st_cmp op_notN os_notN.s (sp_var 1) (sp_of (se_non))) (ss_one (ss_ret (se_var 1))) (ss_nil)) (ss_cons (ss_set 5 sc_book_fault.nd rfl (by first | exact Or.inl rfl | exact Or.inr rfl) (se_blt call_lenA cs_len rfl b_len bb_len (pa_consP (sp_of (se_ix rfl (hu1 hr) (sp_var 0) (sp_of (se_gint rfl c_RULES)) (fun _ _ => rfl))) (pa_nilP)))) (ss_cons (ss_set 1 sc_book_fault.nd rfl (by first | exact Or.inl rfl | exact Or.inr rfl) (se_lamcall [5] G_first_fault (hr.mono (by decide)) g_first_fault k_first_fault B_first_fault (takes_of rfl rfl rfl rfl) rfl (lat_1 TB hmT huT) (sal_cons (se_str) (sal_cons (se_ix rfl (hu1 hr) (sp_var 0) (sp_of (se_gint rfl c_LOOKS_books)) (fun _ _ => rfl)) (sal_cons (se_gint rfl c_MOST_LOOKS) (sal_one (lat_1 TB hmT huT))))))) (ss_cons (ss_if (st_cmp op_notN os_notN.s (sp_var 1) (sp_of (se_non))) (ss_one (ss_ret (se_var 1))) (ss_nil)) (ss_one (ss_ret (se_if (st_val (se_isi rfl tabBool_ok (sp_of (se_ix rfl (hu1 hr) (sp_var 0) (sp_of (se_gint rfl c_LATE_books)) (fun _ _ => rfl))) rfl b_isinstance rfl b_bool bb_bool)) (se_non) (se_tup (sa_cons (se_str) (sa_cons (se_non) (sa_nil)))))))))))))))
theorem sc_need_book : FnScope N_need_book ["thing"] (defScope s_need_book) := ⟨rfl, rfl, rfl, by decide +kernel, rfl, by decide +kernel, by decide +kernel⟩
def m_need_book : List D → G → R D := mDef 2 (mSeq (mAsg (mFn 1 m_book_fault (mCons (mVar 0) (mNil))) (bName 1)) (mSeq (mIfS (mTst (mBin fNotN (mPk 1) (mC .non))) (mRaise "BadBook" ["part", "number"] (mCons (mBin fIx (mPk 1) (mC (.int 0))) (mCons (mBin fIx (mPk 1) (mC (.int 1))) (mNil)))) (mSkip)) (mRet (mVar 0))))
theorem ok_need_book {P : Program} {w : World} {K : PySem.W.Frag} {mg : Str → Option Value} {base : Heap} {Tb : List (Addr × Str)} {C_BadBook C_BadText C_Reader : Addr} (T : Tx mg) (SB : SysB base) (ER : Ers P w K mg base Tb C_BadBook C_BadText C_Reader) (F : At K mg "need_book" s_need_book) (C_book_fault : Cal P w base ⟨K, mg, Lt, Tb⟩ "book_fault" 6 ["thing"] m_book_fault) : Cal P w base ⟨K, mg, Lt, Tb⟩ "need_book" 7 ["thing"] m_need_book := by
  obtain ⟨f_book_fault, fd_book_fault, G_book_fault, g_book_fault, k_book_fault, B_book_fault⟩ := C_book_fault
  have E_BadBook := ER.e_BadBook
  refine cal_of (k := 6) F sc_need_book (fun _ _ _ _ _ _ us hl => match us, hl with | [_], _ => rfl) fun f cdv A outer s H E hr => ?_
  exact ss_cons (ss_set 1 sc_need_book.nd rfl (by first | exact Or.inl rfl | exact Or.inr rfl) (se_call G_book_fault (hr.mono (by decide)) g_book_fault k_book_fault B_book_fault (takes_of rfl rfl rfl rfl) rfl (sa_cons (se_var 0) (sa_nil)))) (ss_cons (ss_if (st_cmp op_notN os_notN.s (sp_var 1) (sp_of (se_non))) (ss_one (ss_raise rfl rfl E_BadBook (hr.mono (by decide)).toRoom rfl rfl (takes_of rfl rfl rfl rfl) (sa_cons (se_ix rfl (hu1 hr) (sp_var 1) (sp_of (se_int)) (fun _ _ => rfl)) (sa_cons (se_ix rfl (hu1 hr) (sp_var 1) (sp_of (se_int)) (fun _ _ => rfl)) (sa_nil))))) (ss_nil)) (ss_one (ss_ret (se_var 0))))
theorem sc_book_text : FnScope N_book_text ["book"] (defScope s_book_text) := ⟨rfl, rfl, rfl, by decide +kernel, rfl, by decide +kernel, by decide +kernel⟩
def m_book_text : List D → G → R D := mDef 12 (mSeq (mAsg (mFn 1 m_need_book (mCons (mVar 0) (mNil))) (bTup [1, 2, 3, 4, 5, 6, 7])) (mSeq (mSetO 8 (mItems (mCons (mFn 2 m_line_of (mCons (mC (.str "speeds")) (mCons (mNew (mItems (mCons (mBlt fStr1 (mCons (mPk 1) (mNil))) (mCons (mBlt fStr1 (mCons (mPk 2) (mNil))) (mCons (mBlt fStr1 (mCons (mPk 3) (mNil))) (mNil)))))) (mNil)))) (mCons (mFn 2 m_line_of (mCons (mC (.str "least")) (mCons (mNew (mItems (mCons (mBlt fStr1 (mCons (mPk 4) (mNil))) (mNil)))) (mNil)))) (mNil))))) (mSeq (mApp 8 (mFn 2 m_line_of (mCons (mC (.str "looks")) (mCons (mNew (mComp [10] (mItB (mVar 5)) (bName 10) (mYes) (mBlt fStr1 (mCons (mPk 10) (mNil))))) (mNil))))) (mSeq (mFor (mItB (mVar 6)) (bName 9) (mApp 8 (mFn 2 m_line_of (mCons (mC (.str "row")) (mCons (mNew (mComp [11] (mItB (mVar 9)) (bName 11) (mYes) (mFn 1 m_choice_text (mCons (mVar 11) (mNil))))) (mNil)))))) (mFrz 8 (mRet (mM1 fJoin (mC (.str "\n")) (mNew (mItems (mStar (mVar 8) (mCons (mFn 2 m_line_of (mCons (mC (.str "late")) (mCons (mNew (mItems (mCons (mIf (mTst (mVar 7)) (mC (.str "yes")) (mC (.str "no"))) (mNil)))) (mNil)))) (mNil))))))))))))
theorem ok_book_text {P : Program} {w : World} {K : PySem.W.Frag} {mg : Str → Option Value} {base : Heap} {Tb : List (Addr × Str)} {C_BadBook C_BadText C_Reader : Addr} (T : Tx mg) (SB : SysB base) (ER : Ers P w K mg base Tb C_BadBook C_BadText C_Reader) (F : At K mg "book_text" s_book_text) (C_need_book : Cal P w base ⟨K, mg, Lt, Tb⟩ "need_book" 7 ["thing"] m_need_book) (C_line_of : Cal P w base ⟨K, mg, Lt, Tb⟩ "line_of" 1 ["word", "some"] m_line_of) (C_choice_text : Cal P w base ⟨K, mg, Lt, Tb⟩ "choice_text" 1 ["some"] m_choice_text) : Cal P w base ⟨K, mg, Lt, Tb⟩ "book_text" 8 ["book"] m_book_text := by
  have b_str := T.b_str
  obtain ⟨t_LEAST, c_LEAST⟩ := T.c_LEAST
  obtain ⟨t_SPEEDS, c_SPEEDS⟩ := T.c_SPEEDS
  obtain ⟨t_LOOKS_texts, c_LOOKS_texts⟩ := T.c_LOOKS_texts
  obtain ⟨t_ROW, c_ROW⟩ := T.c_ROW
  obtain ⟨t_YES, c_YES⟩ := T.c_YES
  obtain ⟨t_NO, c_NO⟩ := T.c_NO
  obtain ⟨t_LATE_texts, c_LATE_texts⟩ := T.c_LATE_texts
  obtain ⟨f_need_book, fd_need_book, G_need_book, g_need_book, k_need_book, B_need_book⟩ := C_need_book
  obtain ⟨f_line_of, fd_line_of, G_line_of, g_line_of, k_line_of, B_line_of⟩ := C_line_of
  obtain ⟨f_choice_text, fd_choice_text, G_choice_text, g_choice_text, k_choice_text, B_choice_text⟩ := C_choice_text
  refine cal_of (k := 7) F sc_book_text (fun _ _ _ _ _ _ us hl => match us, hl with | [_], _ => rfl) fun f cdv A outer s H E hr => ?_
  exact ss_cons (ss_setT [1, 2, 3, 4, 5, 6, 7] rfl rfl (pgs_names_cons (i := 1) sc_book_text.nd rfl (by first | exact Or.inl rfl | exact Or.inr rfl) (pgs_names_cons (i := 2) sc_book_text.nd rfl (by first | exact Or.inl rfl | exact Or.inr rfl) (pgs_names_cons (i := 3) sc_book_text.nd rfl (by first | exact Or.inl rfl | exact Or.inr rfl) (pgs_names_cons (i := 4) sc_book_text.nd rfl (by first | exact Or.inl rfl | exact Or.inr rfl) (pgs_names_cons (i := 5) sc_book_text.nd rfl (by first | exact Or.inl rfl | exact Or.inr rfl) (pgs_names_cons (i := 6) sc_book_text.nd rfl (by first | exact Or.inl rfl | exact Or.inr rfl) (pgs_names_cons (i := 7) sc_book_text.nd rfl (by first | exact Or.inl rfl | exact Or.inr rfl) (pgs_names_nil)))))))) (se_call G_need_book (hr.mono (by decide)) g_need_book k_need_book B_need_book (takes_of rfl rfl rfl rfl) rfl (sa_cons (se_var 0) (sa_nil)))) (ss_cons (ss_own 8 (ps_set (i := 8) sc_book_text.nd rfl (by first | exact Or.inl rfl | exact Or.inr rfl) (sn_lst (sa_cons (se_call G_line_of (hr.mono (by decide)) g_line_of k_line_of B_line_of (takes_of rfl rfl rfl rfl) rfl (sa_cons (se_gstr rfl c_SPEEDS) (sa_cons (se_new (sn_lst (sa_cons (se_ty call_str1 cs_str1 rfl b_str bb_str (pa_consP (sp_var 1) (pa_nilP))) (sa_cons (se_ty call_str1 cs_str1 rfl b_str bb_str (pa_consP (sp_var 2) (pa_nilP))) (sa_cons (se_ty call_str1 cs_str1 rfl b_str bb_str (pa_consP (sp_var 3) (pa_nilP))) (sa_nil)))))) (sa_nil)))) (sa_cons (se_call G_line_of (hr.mono (by decide)) g_line_of k_line_of B_line_of (takes_of rfl rfl rfl rfl) rfl (sa_cons (se_gstr rfl c_LEAST) (sa_cons (se_new (sn_lst (sa_cons (se_ty call_str1 cs_str1 rfl b_str bb_str (pa_consP (sp_var 4) (pa_nilP))) (sa_nil)))) (sa_nil)))) (sa_nil)))))) (ss_cons (ss_app (ps_expr (pe_bm PySem.F.plainAttrs_list PySem.F.slot_list_append PySem.F.type_list_append mt_append (pv 8) (pa_cons (se_call G_line_of (hr.mono (by decide)) g_line_of k_line_of B_line_of (takes_of rfl rfl rfl rfl) rfl (sa_cons (se_gstr rfl c_LOOKS_texts) (sa_cons (se_new (sn_comp (own := [("aspect", 10)]) rfl sc_book_text.nd (siq (si_anyD rfl (se_var 5))) (blkOk_by (N := N_book_text) (sc := defScope s_book_text) (by decide +kernel)) (bs_name 10) (by decide) (fun _ _ _ _ _ => pg_name (i := 10) sc_book_text.nd rfl (by first | exact Or.inl rfl | exact Or.inr rfl)) (fun _ _ _ _ _ => pts_nilS) (fun _ _ _ _ _ => se_ty call_str1 cs_str1 rfl b_str bb_str (pa_consP (sp_var 10) (pa_nilP))))) (sa_nil)))) pa_nil)))) (ss_cons (ss_for (passes_of rfl) rfl (si_anyD rfl (se_var 6)) (pg_name (i := 9) sc_book_text.nd rfl (by first | exact Or.inl rfl | exact Or.inr rfl)) (bs_name 9) (ss_one (ss_app (ps_expr (pe_bm PySem.F.plainAttrs_list PySem.F.slot_list_append PySem.F.type_list_append mt_append (pv 8) (pa_cons (se_call G_line_of (hr.mono (by decide)) g_line_of k_line_of B_line_of (takes_of rfl rfl rfl rfl) rfl (sa_cons (se_gstr rfl c_ROW) (sa_cons (se_new (sn_comp (own := [("some", 11)]) rfl sc_book_text.nd (siq (si_anyD rfl (se_var 9))) (blkOk_by (N := N_book_text) (sc := defScope s_book_text) (by decide +kernel)) (bs_name 11) (by decide) (fun _ _ _ _ _ => pg_name (i := 11) sc_book_text.nd rfl (by first | exact Or.inl rfl | exact Or.inr rfl)) (fun _ _ _ _ _ => pts_nilS) (fun _ _ _ _ _ => se_call G_choice_text (hr.mono (by decide)) g_choice_text k_choice_text B_choice_text takes0 rfl (sa_cons (se_var 11) (sa_nil))))) (sa_nil)))) pa_nil)))))) (ss_one (ss_frz 8 (ss_ret (se_join (sp_of (se_str)) (sp_of (se_new (sn_lst (sa_star (se_var 8) (sa_cons (se_call G_line_of (hr.mono (by decide)) g_line_of k_line_of B_line_of (takes_of rfl rfl rfl rfl) rfl (sa_cons (se_gstr rfl c_LATE_texts) (sa_cons (se_new (sn_lst (sa_cons (se_if (st_val (se_var 7)) (se_gstr rfl c_YES) (se_gstr rfl c_NO)) (sa_nil)))) (sa_nil)))) (sa_nil)))))))))))))
theorem sc_read_book : FnScope N_read_book ["text"] (defScope s_read_book) := ⟨rfl, rfl, rfl, by decide +kernel, rfl, by decide +kernel, by decide +kernel⟩
def m_read_book : List D → G → R D := mHide (mDef 6 (mSeq (mIfS (mNotT (mTst (mIsi tabStr (mPk 0)))) (mRaise "BadText" ["place"] (mCons (mC .non) (mNil))) (mSkip)) (mSeq (mAsg (mMake "Reader" 2 m_Reader___init__ (mCons (mVar 0) (mNil))) (bName 1)) (mSeq (mPar 2 3 (mCons (mMeth "Reader" "need" 4 m_Reader_need (mVar 1) (mCons (mC (.str "speeds")) (mCons (mC (.int 3)) (mCons (mC (.bl false)) (mNil))))) (mCons (mMeth "Reader" "need" 4 m_Reader_need (mVar 1) (mCons (mC (.str "least")) (mCons (mC (.int 1)) (mCons (mC (.bl false)) (mNil))))) (mNil)))) (mSeq (mParX [4, 5] [.v (mMeth "Reader" "need" 4 m_Reader_need (mVar 1) (mCons (mC (.str "looks")) (mCons (mC (.int 0)) (mCons (mC (.bl false)) (mNil))))), .l (mItems (mCons (mMeth "Reader" "need" 4 m_Reader_need (mVar 1) (mCons (mC (.str "row")) (mCons (mC (.int 0)) (mCons (mC (.bl true)) (mNil))))) (mNil)))]) (mSeq (mWhile 1000 (mTst (mMeth "Reader" "has_word" 2 m_Reader_has_word (mVar 1) (mCons (mC (.str "row")) (mNil)))) (mApp 5 (mMeth "Reader" "need" 4 m_Reader_need (mVar 1) (mCons (mC (.str "row")) (mCons (mC (.int 0)) (mCons (mC (.bl true)) (mNil))))))) (mRet (mFn 1 m_need_book (mCons (mTup (mStar (mVar 2) (mStar (mVar 3) (mCons (mVar 4) (mCons (mBlt fTuple (mCons (mPk 5) (mNil))) (mCons (mMeth "Reader" "need_last" 1 m_Reader_need_last (mVar 1) mNil) (mNil))))))) (mNil))))))))))
theorem ok_read_book {P : Program} {w : World} {K : PySem.W.Frag} {mg : Str → Option Value} {base : Heap} {Tb : List (Addr × Str)} {C_BadBook C_BadText C_Reader : Addr} (T : Tx mg) (SB : SysB base) (ER : Ers P w K mg base Tb C_BadBook C_BadText C_Reader) (F : At K mg "read_book" s_read_book) (C_Reader___init__ : CalI P w base ⟨K, mg, Lt, Tb⟩ "Reader" C_Reader 1 ["self", "text"] m_Reader___init__) (C_Reader_need : CalM P w base ⟨K, mg, Lt, Tb⟩ "Reader" "need" C_Reader 3 ["self", "word", "many", "is_row"] m_Reader_need) (C_Reader_has_word : CalM P w base ⟨K, mg, Lt, Tb⟩ "Reader" "has_word" C_Reader 1 ["self", "word"] m_Reader_has_word) (C_need_book : Cal P w base ⟨K, mg, Lt, Tb⟩ "need_book" 7 ["thing"] m_need_book) (C_Reader_need_last : CalM P w base ⟨K, mg, Lt, Tb⟩ "Reader" "need_last" C_Reader 3 ["self"] m_Reader_need_last) : Cal P w base ⟨K, mg, Lt, Tb⟩ "read_book" 8 ["text"] m_read_book := by
  have b_isinstance := T.b_isinstance
  have b_str := T.b_str
  have b_tuple := T.b_tuple
  obtain ⟨t_LEAST, c_LEAST⟩ := T.c_LEAST
  obtain ⟨t_SPEEDS, c_SPEEDS⟩ := T.c_SPEEDS
  obtain ⟨t_ROW, c_ROW⟩ := T.c_ROW
  obtain ⟨t_LOOKS_texts, c_LOOKS_texts⟩ := T.c_LOOKS_texts
  obtain ⟨f_Reader___init__, fd_Reader___init__, G_Reader___init__, M_Reader___init__, B_Reader___init__⟩ := C_Reader___init__
  obtain ⟨f_Reader_need, fd_Reader_need, G_Reader_need, M_Reader_need, B_Reader_need⟩ := C_Reader_need
  obtain ⟨f_Reader_has_word, fd_Reader_has_word, G_Reader_has_word, M_Reader_has_word, B_Reader_has_word⟩ := C_Reader_has_word
  obtain ⟨f_need_book, fd_need_book, G_need_book, g_need_book, k_need_book, B_need_book⟩ := C_need_book
  obtain ⟨f_Reader_need_last, fd_Reader_need_last, G_Reader_need_last, M_Reader_need_last, B_Reader_need_last⟩ := C_Reader_need_last
  have O_Reader := ER.o_Reader
  have E_BadText := ER.e_BadText
  refine cal_hide (cal_of (k := 7) F sc_read_book (fun _ _ _ _ _ _ us hl => match us, hl with | [_], _ => rfl) fun f cdv A outer s H E hr => ?_)
  exact ss_cons (ss_if (st_not (st_val (se_isi rfl tabStr_ok (sp_var 0) rfl b_isinstance rfl b_str bb_str))) (ss_one (ss_raise rfl rfl E_BadText (hr.mono (by decide)).toRoom rfl rfl (takes_of rfl rfl rfl rfl) (sa_cons (se_non) (sa_nil)))) (ss_nil)) (ss_cons (ss_set 1 sc_read_book.nd rfl (by first | exact Or.inl rfl | exact Or.inr rfl) (se_make rfl rfl O_Reader G_Reader___init__ M_Reader___init__ (hr.mono (by decide)) B_Reader___init__ (takes_of rfl rfl rfl rfl) rfl (sa_cons (se_var 0) (sa_nil)))) (ss_cons (ss_par 2 3 rfl sc_read_book.nd rfl rfl (by decide) rfl rfl (sa_cons (se_meth rfl O_Reader G_Reader_need M_Reader_need (hr.mono (by decide)) B_Reader_need (takes_of rfl rfl rfl rfl) (se_var 1) (sa_cons (se_gstr rfl c_SPEEDS) (sa_cons (se_int) (sa_cons (se_bl) (sa_nil))))) (sa_cons (se_meth rfl O_Reader G_Reader_need M_Reader_need (hr.mono (by decide)) B_Reader_need (takes_of rfl rfl rfl rfl) (se_var 1) (sa_cons (se_gstr rfl c_LEAST) (sa_cons (se_int) (sa_cons (se_bl) (sa_nil))))) (sa_nil))) rfl) (ss_cons (ss_parX 4 5 rfl sc_read_book.nd rfl rfl (by decide) rfl rfl (sx_v (se_meth rfl O_Reader G_Reader_need M_Reader_need (hr.mono (by decide)) B_Reader_need (takes_of rfl rfl rfl rfl) (se_var 1) (sa_cons (se_gstr rfl c_LOOKS_texts) (sa_cons (se_int) (sa_cons (se_bl) (sa_nil))))) (sx_l (sn_lst (sa_cons (se_meth rfl O_Reader G_Reader_need M_Reader_need (hr.mono (by decide)) B_Reader_need (takes_of rfl rfl rfl rfl) (se_var 1) (sa_cons (se_gstr rfl c_ROW) (sa_cons (se_int) (sa_cons (se_bl) (sa_nil))))) (sa_nil))) (sx_nil))) rfl) (ss_cons (ss_while 1000 (passes_of rfl) (st_val (se_meth rfl O_Reader G_Reader_has_word M_Reader_has_word (hr.mono (by decide)) B_Reader_has_word (takes_of rfl rfl rfl rfl) (se_var 1) (sa_cons (se_gstr rfl c_ROW) (sa_nil)))) (ss_one (ss_app (ps_expr (pe_bm PySem.F.plainAttrs_list PySem.F.slot_list_append PySem.F.type_list_append mt_append (pv 5) (pa_cons (se_meth rfl O_Reader G_Reader_need M_Reader_need (hr.mono (by decide)) B_Reader_need (takes_of rfl rfl rfl rfl) (se_var 1) (sa_cons (se_gstr rfl c_ROW) (sa_cons (se_int) (sa_cons (se_bl) (sa_nil))))) pa_nil)))))) (ss_one (ss_ret (se_call G_need_book (hr.mono (by decide)) g_need_book k_need_book B_need_book (takes_of rfl rfl rfl rfl) rfl (sa_cons (se_tup (sa_star (se_var 2) (sa_star (se_var 3) (sa_cons (se_var 4) (sa_cons (se_ty call_tupleA cs_tuple rfl b_tuple bb_tuple (pa_consP (sp_var 5) (pa_nilP))) (sa_cons (se_meth0 rfl O_Reader G_Reader_need_last M_Reader_need_last (hr.mono (by decide)) B_Reader_need_last (takes_of rfl rfl rfl rfl) (se_var 1)) (sa_nil))))))) (sa_nil)))))))))
theorem sc_law : FnScope N_law ["_law_script"] (defScope s_law) := ⟨rfl, rfl, rfl, by decide +kernel, rfl, by decide +kernel, by decide +kernel⟩
def m_law : List D → G → R D := mDef 6 (mSeq (mAsg (mFn 1 m__law_begun (mCons (mVar 0) (mNil))) (bName 1)) (mSeq (mAsg (mFn 0 m__law_books mNil) (bName 2)) (mSeq (mAsg (mFn 2 m__law_draw (mCons (mVar 1) (mCons (mBlt fLen (mCons (mPk 2) (mNil))) (mNil)))) (bName 3)) (mSeq (mFor (mItL (mBin fAdd (mSl (mPk 2) (mPart (mVar 3)) (mNo)) (mSl (mPk 2) (mNo) (mPart (mVar 3))))) (bTup [4, 5]) (mIfS (mOrT (mTst (mBin fNe (mFn 1 m_book_text (mCons (mVar 4) (mNil))) (mPk 5))) (mTst (mReprCmp true (mFn 1 m_read_book (mCons (mVar 5) (mNil))) (mPk 4)))) (mRet (mC (.bl false))) (mSkip))) (mRet (mC (.bl true)))))))
theorem ok_law {P : Program} {w : World} {K : PySem.W.Frag} {mg : Str → Option Value} {base : Heap} {Tb : List (Addr × Str)} {C_BadBook C_BadText C_Reader : Addr} (T : Tx mg) (SB : SysB base) (ER : Ers P w K mg base Tb C_BadBook C_BadText C_Reader) {f : Addr} {fd : FuncData} (F : L2.Fun K "law" "law" s_law f fd) (C__law_begun : Cal P w base ⟨K, mg, Lt, Tb⟩ "_law_begun" 1 ["_law_script"] m__law_begun) (C__law_books : Cal P w base ⟨K, mg, Lt, Tb⟩ "_law_books" 1 [] m__law_books) (C__law_draw : Cal P w base ⟨K, mg, Lt, Tb⟩ "_law_draw" 1 ["_law_m", "_law_limit"] m__law_draw) (C_book_text : Cal P w base ⟨K, mg, Lt, Tb⟩ "book_text" 8 ["book"] m_book_text) (C_read_book : Cal P w base ⟨K, mg, Lt, Tb⟩ "read_book" 8 ["text"] m_read_book) : FnG P w K mg base (L2.CX P w) 9 f fd ["_law_script"] (spOf ⟨K, mg, Lt, Tb⟩ 1 m_law) := by
  have b_len := T.b_len
  have b_repr := T.b_repr
  obtain ⟨f__law_begun, fd__law_begun, G__law_begun, g__law_begun, k__law_begun, B__law_begun⟩ := C__law_begun
  obtain ⟨f__law_books, fd__law_books, G__law_books, g__law_books, k__law_books, B__law_books⟩ := C__law_books
  obtain ⟨f__law_draw, fd__law_draw, G__law_draw, g__law_draw, k__law_draw, B__law_draw⟩ := C__law_draw
  obtain ⟨f_book_text, fd_book_text, G_book_text, g_book_text, k_book_text, B_book_text⟩ := C_book_text
  obtain ⟨f_read_book, fd_read_book, G_read_book, g_read_book, k_read_book, B_read_book⟩ := C_read_book
  refine def_ok (k := 8) F sc_law fun cdv A outer s H E hr => ?_
  exact ss_cons (ss_set 1 sc_law.nd rfl (by first | exact Or.inl rfl | exact Or.inr rfl) (se_call G__law_begun (hr.mono (by decide)) g__law_begun k__law_begun B__law_begun (takes_of rfl rfl rfl rfl) rfl (sa_cons (se_var 0) (sa_nil)))) (ss_cons (ss_set 2 sc_law.nd rfl (by first | exact Or.inl rfl | exact Or.inr rfl) (se_call0 G__law_books (hr.mono (by decide)) g__law_books k__law_books B__law_books (takes_of rfl rfl rfl rfl) rfl)) (ss_cons (ss_set 3 sc_law.nd rfl (by first | exact Or.inl rfl | exact Or.inr rfl) (se_call G__law_draw (hr.mono (by decide)) g__law_draw k__law_draw B__law_draw (takes_of rfl rfl rfl rfl) rfl (sa_cons (se_var 1) (sa_cons (se_blt call_lenA cs_len rfl b_len bb_len (pa_consP (sp_var 2) (pa_nilP))) (sa_nil))))) (ss_cons (ss_for (passes_of rfl) rfl (si_list rfl (se_bin op_addA os_add (sp_of (se_slice rfl (sp_var 2) (so_some (se_var 3)) (so_none))) (sp_of (se_slice rfl (sp_var 2) (so_none) (so_some (se_var 3)))))) (pg_tup rfl (pgs_names_cons (i := 4) sc_law.nd rfl (by first | exact Or.inl rfl | exact Or.inr rfl) (pgs_names_cons (i := 5) sc_law.nd rfl (by first | exact Or.inl rfl | exact Or.inr rfl) (pgs_names_nil)))) (bs_tup [4, 5]) (ss_one (ss_if (PW.pt (st_or (st_cmp (op_neD (hu64 hr)) os_ne.s (sp_of (se_call G_book_text (hr.mono (by decide)) g_book_text k_book_text B_book_text (takes_of rfl rfl rfl rfl) rfl (sa_cons (se_var 4) (sa_nil)))) (sp_var 5)) (st_or1 (st_reprNe SB hr rfl b_repr (sp_of (se_call G_read_book (hr.mono (by decide)) g_read_book k_read_book B_read_book (takes_of rfl rfl rfl rfl) rfl (sa_cons (se_var 5) (sa_nil)))) (sp_var 4))))) (ss_one (ss_ret (se_bl))) (ss_nil)))) (ss_one (ss_ret (se_bl))))))
theorem fr_is_whole : FrF m_is_whole := fr_def (by with_reducible repeat' first | exact fr_var | exact fr_pk | exact fr_c | exact fr_nil | exact fr_no | exact fr_yes | exact fr_skip | exact fr_stop | exact fr_retN | exact fr_pop | exact fr_itO | exact fr_d0 | exact fr_raise0 | exact FrA.nil | apply fr_bin | apply fr_tst | apply fr_chain | apply fr_andT | apply fr_orT | apply fr_notT | apply fr_if | apply fr_andV | apply fr_orV | apply fr_notV | apply fr_cons | apply fr_tup | apply fr_lst | apply fr_part | apply fr_sl | apply fr_blt | apply fr_isi | apply fr_fn | apply fr_itL | apply fr_itT | apply fr_itB | apply fr_rg1 | apply fr_rg2 | apply fr_lstI | apply fr_tupI | apply fr_enT | apply fr_enL | apply fr_zip | apply fr_new | apply fr_comp | apply fr_comp2 | apply fr_items | apply fr_listN | apply fr_neg | apply fr_seq | apply fr_ret | apply fr_exp | apply fr_ifS | apply fr_asg | apply fr_par | apply fr_par3 | apply fr_setO | apply fr_frz | apply fr_app | apply fr_ext | apply fr_for | apply fr_while | apply fr_aug | apply fr_callV | apply fr_lamcall | apply fr_newD | apply fr_catN | apply fr_revN | apply fr_setD | apply fr_dc | apply fr_put | apply fr_raise | apply fr_tryS | apply fr_reprCmp | apply fr_parX | apply FrA.v | apply FrA.l | apply FrA.d | apply fr_d1 | apply fr_get2 | apply fr_dictP | apply fr_idx | apply fr_star | apply fr_puti | apply fr_m1)
theorem fr_is_tuple_of : FrF m_is_tuple_of := fr_def (by with_reducible repeat' first | exact fr_var | exact fr_pk | exact fr_c | exact fr_nil | exact fr_no | exact fr_yes | exact fr_skip | exact fr_stop | exact fr_retN | exact fr_pop | exact fr_itO | exact fr_d0 | exact fr_raise0 | exact FrA.nil | apply fr_bin | apply fr_tst | apply fr_chain | apply fr_andT | apply fr_orT | apply fr_notT | apply fr_if | apply fr_andV | apply fr_orV | apply fr_notV | apply fr_cons | apply fr_tup | apply fr_lst | apply fr_part | apply fr_sl | apply fr_blt | apply fr_isi | apply fr_fn | apply fr_itL | apply fr_itT | apply fr_itB | apply fr_rg1 | apply fr_rg2 | apply fr_lstI | apply fr_tupI | apply fr_enT | apply fr_enL | apply fr_zip | apply fr_new | apply fr_comp | apply fr_comp2 | apply fr_items | apply fr_listN | apply fr_neg | apply fr_seq | apply fr_ret | apply fr_exp | apply fr_ifS | apply fr_asg | apply fr_par | apply fr_par3 | apply fr_setO | apply fr_frz | apply fr_app | apply fr_ext | apply fr_for | apply fr_while | apply fr_aug | apply fr_callV | apply fr_lamcall | apply fr_newD | apply fr_catN | apply fr_revN | apply fr_setD | apply fr_dc | apply fr_put | apply fr_raise | apply fr_tryS | apply fr_reprCmp | apply fr_parX | apply FrA.v | apply FrA.l | apply FrA.d | apply fr_d1 | apply fr_get2 | apply fr_dictP | apply fr_idx | apply fr_star | apply fr_puti | apply fr_m1)
theorem fr_follows_in : FrF m_follows_in := fr_def (by with_reducible repeat' first | exact fr_var | exact fr_pk | exact fr_c | exact fr_nil | exact fr_no | exact fr_yes | exact fr_skip | exact fr_stop | exact fr_retN | exact fr_pop | exact fr_itO | exact fr_d0 | exact fr_raise0 | exact FrA.nil | apply fr_bin | apply fr_tst | apply fr_chain | apply fr_andT | apply fr_orT | apply fr_notT | apply fr_if | apply fr_andV | apply fr_orV | apply fr_notV | apply fr_cons | apply fr_tup | apply fr_lst | apply fr_part | apply fr_sl | apply fr_blt | apply fr_isi | apply fr_fn | apply fr_itL | apply fr_itT | apply fr_itB | apply fr_rg1 | apply fr_rg2 | apply fr_lstI | apply fr_tupI | apply fr_enT | apply fr_enL | apply fr_zip | apply fr_new | apply fr_comp | apply fr_comp2 | apply fr_items | apply fr_listN | apply fr_neg | apply fr_seq | apply fr_ret | apply fr_exp | apply fr_ifS | apply fr_asg | apply fr_par | apply fr_par3 | apply fr_setO | apply fr_frz | apply fr_app | apply fr_ext | apply fr_for | apply fr_while | apply fr_aug | apply fr_callV | apply fr_lamcall | apply fr_newD | apply fr_catN | apply fr_revN | apply fr_setD | apply fr_dc | apply fr_put | apply fr_raise | apply fr_tryS | apply fr_reprCmp | apply fr_parX | apply FrA.v | apply FrA.l | apply FrA.d | apply fr_d1 | apply fr_get2 | apply fr_dictP | apply fr_idx | apply fr_star | apply fr_puti | apply fr_m1)
theorem fr_line_of : FrF m_line_of := fr_def (by with_reducible repeat' first | exact fr_var | exact fr_pk | exact fr_c | exact fr_nil | exact fr_no | exact fr_yes | exact fr_skip | exact fr_stop | exact fr_retN | exact fr_pop | exact fr_itO | exact fr_d0 | exact fr_raise0 | exact FrA.nil | apply fr_bin | apply fr_tst | apply fr_chain | apply fr_andT | apply fr_orT | apply fr_notT | apply fr_if | apply fr_andV | apply fr_orV | apply fr_notV | apply fr_cons | apply fr_tup | apply fr_lst | apply fr_part | apply fr_sl | apply fr_blt | apply fr_isi | apply fr_fn | apply fr_itL | apply fr_itT | apply fr_itB | apply fr_rg1 | apply fr_rg2 | apply fr_lstI | apply fr_tupI | apply fr_enT | apply fr_enL | apply fr_zip | apply fr_new | apply fr_comp | apply fr_comp2 | apply fr_items | apply fr_listN | apply fr_neg | apply fr_seq | apply fr_ret | apply fr_exp | apply fr_ifS | apply fr_asg | apply fr_par | apply fr_par3 | apply fr_setO | apply fr_frz | apply fr_app | apply fr_ext | apply fr_for | apply fr_while | apply fr_aug | apply fr_callV | apply fr_lamcall | apply fr_newD | apply fr_catN | apply fr_revN | apply fr_setD | apply fr_dc | apply fr_put | apply fr_raise | apply fr_tryS | apply fr_reprCmp | apply fr_parX | apply FrA.v | apply FrA.l | apply FrA.d | apply fr_d1 | apply fr_get2 | apply fr_dictP | apply fr_idx | apply fr_star | apply fr_puti | apply fr_m1)
theorem fr_choice_text : FrF m_choice_text := fr_def (by with_reducible repeat' first | exact fr_var | exact fr_pk | exact fr_c | exact fr_nil | exact fr_no | exact fr_yes | exact fr_skip | exact fr_stop | exact fr_retN | exact fr_pop | exact fr_itO | exact fr_d0 | exact fr_raise0 | exact FrA.nil | apply fr_bin | apply fr_tst | apply fr_chain | apply fr_andT | apply fr_orT | apply fr_notT | apply fr_if | apply fr_andV | apply fr_orV | apply fr_notV | apply fr_cons | apply fr_tup | apply fr_lst | apply fr_part | apply fr_sl | apply fr_blt | apply fr_isi | apply fr_fn | apply fr_itL | apply fr_itT | apply fr_itB | apply fr_rg1 | apply fr_rg2 | apply fr_lstI | apply fr_tupI | apply fr_enT | apply fr_enL | apply fr_zip | apply fr_new | apply fr_comp | apply fr_comp2 | apply fr_items | apply fr_listN | apply fr_neg | apply fr_seq | apply fr_ret | apply fr_exp | apply fr_ifS | apply fr_asg | apply fr_par | apply fr_par3 | apply fr_setO | apply fr_frz | apply fr_app | apply fr_ext | apply fr_for | apply fr_while | apply fr_aug | apply fr_callV | apply fr_lamcall | apply fr_newD | apply fr_catN | apply fr_revN | apply fr_setD | apply fr_dc | apply fr_put | apply fr_raise | apply fr_tryS | apply fr_reprCmp | apply fr_parX | apply FrA.v | apply FrA.l | apply FrA.d | apply fr_d1 | apply fr_get2 | apply fr_dictP | apply fr_idx | apply fr_star | apply fr_puti | apply fr_m1)
theorem fr_number_in : FrF m_number_in := fr_def (by with_reducible repeat' first | exact fr_var | exact fr_pk | exact fr_c | exact fr_nil | exact fr_no | exact fr_yes | exact fr_skip | exact fr_stop | exact fr_retN | exact fr_pop | exact fr_itO | exact fr_d0 | exact fr_raise0 | exact FrA.nil | apply fr_bin | apply fr_tst | apply fr_chain | apply fr_andT | apply fr_orT | apply fr_notT | apply fr_if | apply fr_andV | apply fr_orV | apply fr_notV | apply fr_cons | apply fr_tup | apply fr_lst | apply fr_part | apply fr_sl | apply fr_blt | apply fr_isi | apply fr_fn | apply fr_itL | apply fr_itT | apply fr_itB | apply fr_rg1 | apply fr_rg2 | apply fr_lstI | apply fr_tupI | apply fr_enT | apply fr_enL | apply fr_zip | apply fr_new | apply fr_comp | apply fr_comp2 | apply fr_items | apply fr_listN | apply fr_neg | apply fr_seq | apply fr_ret | apply fr_exp | apply fr_ifS | apply fr_asg | apply fr_par | apply fr_par3 | apply fr_setO | apply fr_frz | apply fr_app | apply fr_ext | apply fr_for | apply fr_while | apply fr_aug | apply fr_callV | apply fr_lamcall | apply fr_newD | apply fr_catN | apply fr_revN | apply fr_setD | apply fr_dc | apply fr_put | apply fr_raise | apply fr_tryS | apply fr_reprCmp | apply fr_parX | apply FrA.v | apply FrA.l | apply FrA.d | apply fr_d1 | apply fr_get2 | apply fr_dictP | apply fr_idx | apply fr_star | apply fr_puti | apply fr_m1)
theorem fr__law_books : FrF m__law_books := fr_def (by with_reducible repeat' first | exact fr_var | exact fr_pk | exact fr_c | exact fr_nil | exact fr_no | exact fr_yes | exact fr_skip | exact fr_stop | exact fr_retN | exact fr_pop | exact fr_itO | exact fr_d0 | exact fr_raise0 | exact FrA.nil | apply fr_bin | apply fr_tst | apply fr_chain | apply fr_andT | apply fr_orT | apply fr_notT | apply fr_if | apply fr_andV | apply fr_orV | apply fr_notV | apply fr_cons | apply fr_tup | apply fr_lst | apply fr_part | apply fr_sl | apply fr_blt | apply fr_isi | apply fr_fn | apply fr_itL | apply fr_itT | apply fr_itB | apply fr_rg1 | apply fr_rg2 | apply fr_lstI | apply fr_tupI | apply fr_enT | apply fr_enL | apply fr_zip | apply fr_new | apply fr_comp | apply fr_comp2 | apply fr_items | apply fr_listN | apply fr_neg | apply fr_seq | apply fr_ret | apply fr_exp | apply fr_ifS | apply fr_asg | apply fr_par | apply fr_par3 | apply fr_setO | apply fr_frz | apply fr_app | apply fr_ext | apply fr_for | apply fr_while | apply fr_aug | apply fr_callV | apply fr_lamcall | apply fr_newD | apply fr_catN | apply fr_revN | apply fr_setD | apply fr_dc | apply fr_put | apply fr_raise | apply fr_tryS | apply fr_reprCmp | apply fr_parX | apply FrA.v | apply FrA.l | apply FrA.d | apply fr_d1 | apply fr_get2 | apply fr_dictP | apply fr_idx | apply fr_star | apply fr_puti | apply fr_m1)
theorem fr_is_choice : FrF m_is_choice := fr_def (by with_reducible repeat' first | exact fr_var | exact fr_pk | exact fr_c | exact fr_nil | exact fr_no | exact fr_yes | exact fr_skip | exact fr_stop | exact fr_retN | exact fr_pop | exact fr_itO | exact fr_d0 | exact fr_raise0 | exact FrA.nil | exact fr_is_tuple_of | exact fr_is_whole | apply fr_bin | apply fr_tst | apply fr_chain | apply fr_andT | apply fr_orT | apply fr_notT | apply fr_if | apply fr_andV | apply fr_orV | apply fr_notV | apply fr_cons | apply fr_tup | apply fr_lst | apply fr_part | apply fr_sl | apply fr_blt | apply fr_isi | apply fr_fn | apply fr_itL | apply fr_itT | apply fr_itB | apply fr_rg1 | apply fr_rg2 | apply fr_lstI | apply fr_tupI | apply fr_enT | apply fr_enL | apply fr_zip | apply fr_new | apply fr_comp | apply fr_comp2 | apply fr_items | apply fr_listN | apply fr_neg | apply fr_seq | apply fr_ret | apply fr_exp | apply fr_ifS | apply fr_asg | apply fr_par | apply fr_par3 | apply fr_setO | apply fr_frz | apply fr_app | apply fr_ext | apply fr_for | apply fr_while | apply fr_aug | apply fr_callV | apply fr_lamcall | apply fr_newD | apply fr_catN | apply fr_revN | apply fr_setD | apply fr_dc | apply fr_put | apply fr_raise | apply fr_tryS | apply fr_reprCmp | apply fr_parX | apply FrA.v | apply FrA.l | apply FrA.d | apply fr_d1 | apply fr_get2 | apply fr_dictP | apply fr_idx | apply fr_star | apply fr_puti | apply fr_m1)
theorem fr_numbers_fault : FrF m_numbers_fault := fr_def (by with_reducible repeat' first | exact fr_var | exact fr_pk | exact fr_c | exact fr_nil | exact fr_no | exact fr_yes | exact fr_skip | exact fr_stop | exact fr_retN | exact fr_pop | exact fr_itO | exact fr_d0 | exact fr_raise0 | exact FrA.nil | exact fr_is_whole | apply fr_bin | apply fr_tst | apply fr_chain | apply fr_andT | apply fr_orT | apply fr_notT | apply fr_if | apply fr_andV | apply fr_orV | apply fr_notV | apply fr_cons | apply fr_tup | apply fr_lst | apply fr_part | apply fr_sl | apply fr_blt | apply fr_isi | apply fr_fn | apply fr_itL | apply fr_itT | apply fr_itB | apply fr_rg1 | apply fr_rg2 | apply fr_lstI | apply fr_tupI | apply fr_enT | apply fr_enL | apply fr_zip | apply fr_new | apply fr_comp | apply fr_comp2 | apply fr_items | apply fr_listN | apply fr_neg | apply fr_seq | apply fr_ret | apply fr_exp | apply fr_ifS | apply fr_asg | apply fr_par | apply fr_par3 | apply fr_setO | apply fr_frz | apply fr_app | apply fr_ext | apply fr_for | apply fr_while | apply fr_aug | apply fr_callV | apply fr_lamcall | apply fr_newD | apply fr_catN | apply fr_revN | apply fr_setD | apply fr_dc | apply fr_put | apply fr_raise | apply fr_tryS | apply fr_reprCmp | apply fr_parX | apply FrA.v | apply FrA.l | apply FrA.d | apply fr_d1 | apply fr_get2 | apply fr_dictP | apply fr_idx | apply fr_star | apply fr_puti | apply fr_m1)
theorem fr_choice_in : FrF m_choice_in := fr_def (by with_reducible repeat' first | exact fr_var | exact fr_pk | exact fr_c | exact fr_nil | exact fr_no | exact fr_yes | exact fr_skip | exact fr_stop | exact fr_retN | exact fr_pop | exact fr_itO | exact fr_d0 | exact fr_raise0 | exact FrA.nil | exact fr_number_in | apply fr_bin | apply fr_tst | apply fr_chain | apply fr_andT | apply fr_orT | apply fr_notT | apply fr_if | apply fr_andV | apply fr_orV | apply fr_notV | apply fr_cons | apply fr_tup | apply fr_lst | apply fr_part | apply fr_sl | apply fr_blt | apply fr_isi | apply fr_fn | apply fr_itL | apply fr_itT | apply fr_itB | apply fr_rg1 | apply fr_rg2 | apply fr_lstI | apply fr_tupI | apply fr_enT | apply fr_enL | apply fr_zip | apply fr_new | apply fr_comp | apply fr_comp2 | apply fr_items | apply fr_listN | apply fr_neg | apply fr_seq | apply fr_ret | apply fr_exp | apply fr_ifS | apply fr_asg | apply fr_par | apply fr_par3 | apply fr_setO | apply fr_frz | apply fr_app | apply fr_ext | apply fr_for | apply fr_while | apply fr_aug | apply fr_callV | apply fr_lamcall | apply fr_newD | apply fr_catN | apply fr_revN | apply fr_setD | apply fr_dc | apply fr_put | apply fr_raise | apply fr_tryS | apply fr_reprCmp | apply fr_parX | apply FrA.v | apply FrA.l | apply FrA.d | apply fr_d1 | apply fr_get2 | apply fr_dictP | apply fr_idx | apply fr_star | apply fr_puti | apply fr_m1)
theorem fr_is_row : FrF m_is_row := fr_def (by with_reducible repeat' first | exact fr_var | exact fr_pk | exact fr_c | exact fr_nil | exact fr_no | exact fr_yes | exact fr_skip | exact fr_stop | exact fr_retN | exact fr_pop | exact fr_itO | exact fr_d0 | exact fr_raise0 | exact FrA.nil | exact fr_is_tuple_of | exact fr_is_choice | exact fr_follows_in | apply fr_bin | apply fr_tst | apply fr_chain | apply fr_andT | apply fr_orT | apply fr_notT | apply fr_if | apply fr_andV | apply fr_orV | apply fr_notV | apply fr_cons | apply fr_tup | apply fr_lst | apply fr_part | apply fr_sl | apply fr_blt | apply fr_isi | apply fr_fn | apply fr_itL | apply fr_itT | apply fr_itB | apply fr_rg1 | apply fr_rg2 | apply fr_lstI | apply fr_tupI | apply fr_enT | apply fr_enL | apply fr_zip | apply fr_new | apply fr_comp | apply fr_comp2 | apply fr_items | apply fr_listN | apply fr_neg | apply fr_seq | apply fr_ret | apply fr_exp | apply fr_ifS | apply fr_asg | apply fr_par | apply fr_par3 | apply fr_setO | apply fr_frz | apply fr_app | apply fr_ext | apply fr_for | apply fr_while | apply fr_aug | apply fr_callV | apply fr_lamcall | apply fr_newD | apply fr_catN | apply fr_revN | apply fr_setD | apply fr_dc | apply fr_put | apply fr_raise | apply fr_tryS | apply fr_reprCmp | apply fr_parX | apply FrA.v | apply FrA.l | apply FrA.d | apply fr_d1 | apply fr_get2 | apply fr_dictP | apply fr_idx | apply fr_star | apply fr_puti | apply fr_m1)
theorem fr_LF_first_fault : FrL LF_first_fault := fun n cs ds => match n with
  | 0 => fr_lam (by unfold m_lam_0; with_reducible repeat' first | exact fr_var | exact fr_pk | exact fr_c | exact fr_nil | exact fr_no | exact fr_yes | exact fr_skip | exact fr_stop | exact fr_retN | exact fr_pop | exact fr_itO | exact fr_d0 | exact fr_raise0 | exact FrA.nil | exact fr_is_row | apply fr_bin | apply fr_tst | apply fr_chain | apply fr_andT | apply fr_orT | apply fr_notT | apply fr_if | apply fr_andV | apply fr_orV | apply fr_notV | apply fr_cons | apply fr_tup | apply fr_lst | apply fr_part | apply fr_sl | apply fr_blt | apply fr_isi | apply fr_fn | apply fr_itL | apply fr_itT | apply fr_itB | apply fr_rg1 | apply fr_rg2 | apply fr_lstI | apply fr_tupI | apply fr_enT | apply fr_enL | apply fr_zip | apply fr_new | apply fr_comp | apply fr_comp2 | apply fr_items | apply fr_listN | apply fr_neg | apply fr_seq | apply fr_ret | apply fr_exp | apply fr_ifS | apply fr_asg | apply fr_par | apply fr_par3 | apply fr_setO | apply fr_frz | apply fr_app | apply fr_ext | apply fr_for | apply fr_while | apply fr_aug | apply fr_callV | apply fr_lamcall | apply fr_newD | apply fr_catN | apply fr_revN | apply fr_setD | apply fr_dc | apply fr_put | apply fr_raise | apply fr_tryS | apply fr_reprCmp | apply fr_parX | apply FrA.v | apply FrA.l | apply FrA.d | apply fr_d1 | apply fr_get2 | apply fr_dictP | apply fr_idx | apply fr_star | apply fr_puti | apply fr_m1) cs ds
  | 1 => fr_lam (by unfold m_lam_1; with_reducible repeat' first | exact fr_var | exact fr_pk | exact fr_c | exact fr_nil | exact fr_no | exact fr_yes | exact fr_skip | exact fr_stop | exact fr_retN | exact fr_pop | exact fr_itO | exact fr_d0 | exact fr_raise0 | exact FrA.nil | exact fr_is_whole | apply fr_bin | apply fr_tst | apply fr_chain | apply fr_andT | apply fr_orT | apply fr_notT | apply fr_if | apply fr_andV | apply fr_orV | apply fr_notV | apply fr_cons | apply fr_tup | apply fr_lst | apply fr_part | apply fr_sl | apply fr_blt | apply fr_isi | apply fr_fn | apply fr_itL | apply fr_itT | apply fr_itB | apply fr_rg1 | apply fr_rg2 | apply fr_lstI | apply fr_tupI | apply fr_enT | apply fr_enL | apply fr_zip | apply fr_new | apply fr_comp | apply fr_comp2 | apply fr_items | apply fr_listN | apply fr_neg | apply fr_seq | apply fr_ret | apply fr_exp | apply fr_ifS | apply fr_asg | apply fr_par | apply fr_par3 | apply fr_setO | apply fr_frz | apply fr_app | apply fr_ext | apply fr_for | apply fr_while | apply fr_aug | apply fr_callV | apply fr_lamcall | apply fr_newD | apply fr_catN | apply fr_revN | apply fr_setD | apply fr_dc | apply fr_put | apply fr_raise | apply fr_tryS | apply fr_reprCmp | apply fr_parX | apply FrA.v | apply FrA.l | apply FrA.d | apply fr_d1 | apply fr_get2 | apply fr_dictP | apply fr_idx | apply fr_star | apply fr_puti | apply fr_m1) cs ds
  | _ + 2 => Fr.st
theorem fr_first_fault : FrF m_first_fault := fr_def (by with_reducible repeat' first | exact fr_var | exact fr_pk | exact fr_c | exact fr_nil | exact fr_no | exact fr_yes | exact fr_skip | exact fr_stop | exact fr_retN | exact fr_pop | exact fr_itO | exact fr_d0 | exact fr_raise0 | exact FrA.nil | exact fr_is_tuple_of | exact fr_LF_first_fault | apply fr_bin | apply fr_tst | apply fr_chain | apply fr_andT | apply fr_orT | apply fr_notT | apply fr_if | apply fr_andV | apply fr_orV | apply fr_notV | apply fr_cons | apply fr_tup | apply fr_lst | apply fr_part | apply fr_sl | apply fr_blt | apply fr_isi | apply fr_fn | apply fr_itL | apply fr_itT | apply fr_itB | apply fr_rg1 | apply fr_rg2 | apply fr_lstI | apply fr_tupI | apply fr_enT | apply fr_enL | apply fr_zip | apply fr_new | apply fr_comp | apply fr_comp2 | apply fr_items | apply fr_listN | apply fr_neg | apply fr_seq | apply fr_ret | apply fr_exp | apply fr_ifS | apply fr_asg | apply fr_par | apply fr_par3 | apply fr_setO | apply fr_frz | apply fr_app | apply fr_ext | apply fr_for | apply fr_while | apply fr_aug | apply fr_callV | apply fr_lamcall | apply fr_newD | apply fr_catN | apply fr_revN | apply fr_setD | apply fr_dc | apply fr_put | apply fr_raise | apply fr_tryS | apply fr_reprCmp | apply fr_parX | apply FrA.v | apply FrA.l | apply FrA.d | apply fr_d1 | apply fr_get2 | apply fr_dictP | apply fr_idx | apply fr_star | apply fr_puti | apply fr_m1)
theorem fr_book_fault : FrF m_book_fault := fr_def (by with_reducible repeat' first | exact fr_var | exact fr_pk | exact fr_c | exact fr_nil | exact fr_no | exact fr_yes | exact fr_skip | exact fr_stop | exact fr_retN | exact fr_pop | exact fr_itO | exact fr_d0 | exact fr_raise0 | exact FrA.nil | exact fr_is_tuple_of | exact fr_numbers_fault | exact fr_first_fault | apply fr_bin | apply fr_tst | apply fr_chain | apply fr_andT | apply fr_orT | apply fr_notT | apply fr_if | apply fr_andV | apply fr_orV | apply fr_notV | apply fr_cons | apply fr_tup | apply fr_lst | apply fr_part | apply fr_sl | apply fr_blt | apply fr_isi | apply fr_fn | apply fr_itL | apply fr_itT | apply fr_itB | apply fr_rg1 | apply fr_rg2 | apply fr_lstI | apply fr_tupI | apply fr_enT | apply fr_enL | apply fr_zip | apply fr_new | apply fr_comp | apply fr_comp2 | apply fr_items | apply fr_listN | apply fr_neg | apply fr_seq | apply fr_ret | apply fr_exp | apply fr_ifS | apply fr_asg | apply fr_par | apply fr_par3 | apply fr_setO | apply fr_frz | apply fr_app | apply fr_ext | apply fr_for | apply fr_while | apply fr_aug | apply fr_callV | apply fr_lamcall | apply fr_newD | apply fr_catN | apply fr_revN | apply fr_setD | apply fr_dc | apply fr_put | apply fr_raise | apply fr_tryS | apply fr_reprCmp | apply fr_parX | apply FrA.v | apply FrA.l | apply FrA.d | apply fr_d1 | apply fr_get2 | apply fr_dictP | apply fr_idx | apply fr_star | apply fr_puti | apply fr_m1)
theorem fr_need_book : FrF m_need_book := fr_def (by with_reducible repeat' first | exact fr_var | exact fr_pk | exact fr_c | exact fr_nil | exact fr_no | exact fr_yes | exact fr_skip | exact fr_stop | exact fr_retN | exact fr_pop | exact fr_itO | exact fr_d0 | exact fr_raise0 | exact FrA.nil | exact fr_book_fault | apply fr_bin | apply fr_tst | apply fr_chain | apply fr_andT | apply fr_orT | apply fr_notT | apply fr_if | apply fr_andV | apply fr_orV | apply fr_notV | apply fr_cons | apply fr_tup | apply fr_lst | apply fr_part | apply fr_sl | apply fr_blt | apply fr_isi | apply fr_fn | apply fr_itL | apply fr_itT | apply fr_itB | apply fr_rg1 | apply fr_rg2 | apply fr_lstI | apply fr_tupI | apply fr_enT | apply fr_enL | apply fr_zip | apply fr_new | apply fr_comp | apply fr_comp2 | apply fr_items | apply fr_listN | apply fr_neg | apply fr_seq | apply fr_ret | apply fr_exp | apply fr_ifS | apply fr_asg | apply fr_par | apply fr_par3 | apply fr_setO | apply fr_frz | apply fr_app | apply fr_ext | apply fr_for | apply fr_while | apply fr_aug | apply fr_callV | apply fr_lamcall | apply fr_newD | apply fr_catN | apply fr_revN | apply fr_setD | apply fr_dc | apply fr_put | apply fr_raise | apply fr_tryS | apply fr_reprCmp | apply fr_parX | apply FrA.v | apply FrA.l | apply FrA.d | apply fr_d1 | apply fr_get2 | apply fr_dictP | apply fr_idx | apply fr_star | apply fr_puti | apply fr_m1)
theorem fr_book_text : FrF m_book_text := fr_def (by with_reducible repeat' first | exact fr_var | exact fr_pk | exact fr_c | exact fr_nil | exact fr_no | exact fr_yes | exact fr_skip | exact fr_stop | exact fr_retN | exact fr_pop | exact fr_itO | exact fr_d0 | exact fr_raise0 | exact FrA.nil | exact fr_need_book | exact fr_line_of | exact fr_choice_text | apply fr_bin | apply fr_tst | apply fr_chain | apply fr_andT | apply fr_orT | apply fr_notT | apply fr_if | apply fr_andV | apply fr_orV | apply fr_notV | apply fr_cons | apply fr_tup | apply fr_lst | apply fr_part | apply fr_sl | apply fr_blt | apply fr_isi | apply fr_fn | apply fr_itL | apply fr_itT | apply fr_itB | apply fr_rg1 | apply fr_rg2 | apply fr_lstI | apply fr_tupI | apply fr_enT | apply fr_enL | apply fr_zip | apply fr_new | apply fr_comp | apply fr_comp2 | apply fr_items | apply fr_listN | apply fr_neg | apply fr_seq | apply fr_ret | apply fr_exp | apply fr_ifS | apply fr_asg | apply fr_par | apply fr_par3 | apply fr_setO | apply fr_frz | apply fr_app | apply fr_ext | apply fr_for | apply fr_while | apply fr_aug | apply fr_callV | apply fr_lamcall | apply fr_newD | apply fr_catN | apply fr_revN | apply fr_setD | apply fr_dc | apply fr_put | apply fr_raise | apply fr_tryS | apply fr_reprCmp | apply fr_parX | apply FrA.v | apply FrA.l | apply FrA.d | apply fr_d1 | apply fr_get2 | apply fr_dictP | apply fr_idx | apply fr_star | apply fr_puti | apply fr_m1)
theorem fr_read_book : FrF m_read_book := fr_hide
theorem ok_all {P : Program} {w : World} {K : PySem.W.Frag} {mg : Str → Option Value} {base : Heap} {Tb : List (Addr × Str)} {C_BadBook C_BadText C_Reader : Addr} {c_book_fault P_book_fault : Addr} (T : Tx mg) (SB : SysB base) (ER : Ers P w K mg base Tb C_BadBook C_BadText C_Reader) (A_is_whole : At K mg "is_whole" s_is_whole) (A_is_tuple_of : At K mg "is_tuple_of" s_is_tuple_of) (A_follows_in : At K mg "follows_in" s_follows_in) (A_line_of : At K mg "line_of" s_line_of) (A_choice_text : At K mg "choice_text" s_choice_text) (A_number_in : At K mg "number_in" s_number_in) (A_Reader___init__ : AtI K C_Reader "Reader.__init__" s_Reader___init__) (A_Reader_has_word : AtM K C_Reader "has_word" "Reader.has_word" s_Reader_has_word) (A__law_begun : At K mg "_law_begun" s__law_begun) (A__law_draw : At K mg "_law_draw" s__law_draw) (A__law_books : At K mg "_law_books" s__law_books) (A_is_choice : At K mg "is_choice" s_is_choice) (A_numbers_fault : At K mg "numbers_fault" s_numbers_fault) (A_choice_in : At K mg "choice_in" s_choice_in) (A_is_row : At K mg "is_row" s_is_row) (A_Reader_need : AtM K C_Reader "need" "Reader.need" s_Reader_need) (A_Reader_need_last : AtM K C_Reader "need_last" "Reader.need_last" s_Reader_need_last) (A_first_fault : At K mg "first_fault" s_first_fault) (A_book_fault : AtC K mg "book_fault" s_book_fault c_book_fault) (TB_book_fault : LamX.TabB base mg c_book_fault P_book_fault) (hm_book_fault : (P_book_fault, ("book_fault.<locals>.<lambda>" : Str)) ∈ Tb) (hu_book_fault : ∀ p ∈ Tb, p.1 = P_book_fault → p.2 = ("book_fault.<locals>.<lambda>" : Str)) (A_need_book : At K mg "need_book" s_need_book) (A_book_text : At K mg "book_text" s_book_text) (A_read_book : At K mg "read_book" s_read_book) {f : Addr} {fd : FuncData} (F : L2.Fun K "law" "law" s_law f fd) : FnG P w K mg base (L2.CX P w) 9 f fd ["_law_script"] (spOf ⟨K, mg, Lt, Tb⟩ 1 m_law) := by
  have C_is_whole := ok_is_whole (P := P) (w := w) (base := base) (Tb := Tb) T SB ER A_is_whole
  have C_is_tuple_of := ok_is_tuple_of (P := P) (w := w) (base := base) (Tb := Tb) T SB ER A_is_tuple_of
  have C_follows_in := ok_follows_in (P := P) (w := w) (base := base) (Tb := Tb) T SB ER A_follows_in
  have C_line_of := ok_line_of (P := P) (w := w) (base := base) (Tb := Tb) T SB ER A_line_of
  have C_choice_text := ok_choice_text (P := P) (w := w) (base := base) (Tb := Tb) T SB ER A_choice_text
  have C_number_in := ok_number_in (P := P) (w := w) (base := base) (Tb := Tb) T SB ER A_number_in
  have C_Reader___init__ := ok_Reader___init__ (P := P) (w := w) (base := base) (Tb := Tb) T SB ER A_Reader___init__
  have C_Reader_has_word := ok_Reader_has_word (P := P) (w := w) (base := base) (Tb := Tb) T SB ER A_Reader_has_word
  have C__law_begun := ok__law_begun (P := P) (w := w) (base := base) (Tb := Tb) T SB ER A__law_begun
  have C__law_draw := ok__law_draw (P := P) (w := w) (base := base) (Tb := Tb) T SB ER A__law_draw
  have C__law_books := ok__law_books (P := P) (w := w) (base := base) (Tb := Tb) T SB ER A__law_books
  have C_is_choice := ok_is_choice (P := P) (w := w) (base := base) (Tb := Tb) T SB ER A_is_choice C_is_tuple_of C_is_whole
  have C_numbers_fault := ok_numbers_fault (P := P) (w := w) (base := base) (Tb := Tb) T SB ER A_numbers_fault C_is_whole
  have C_choice_in := ok_choice_in (P := P) (w := w) (base := base) (Tb := Tb) T SB ER A_choice_in C_number_in
  have C_is_row := ok_is_row (P := P) (w := w) (base := base) (Tb := Tb) T SB ER A_is_row C_is_tuple_of C_is_choice C_follows_in
  have C_Reader_need := ok_Reader_need (P := P) (w := w) (base := base) (Tb := Tb) T SB ER A_Reader_need C_Reader_has_word C_choice_in C_number_in
  have C_Reader_need_last := ok_Reader_need_last (P := P) (w := w) (base := base) (Tb := Tb) T SB ER A_Reader_need_last C_line_of
  have LA_first_fault := lam_all_first_fault (P := P) (w := w) (base := base) (Tb := Tb) T SB ER C_is_row C_is_whole
  have C_first_fault := ok_first_fault (P := P) (w := w) (base := base) (Tb := Tb) T SB ER A_first_fault C_is_tuple_of LA_first_fault
  have C_book_fault := ok_book_fault (P := P) (w := w) (base := base) (Tb := Tb) T SB ER TB_book_fault hm_book_fault hu_book_fault A_book_fault C_is_tuple_of C_numbers_fault C_first_fault
  have C_need_book := ok_need_book (P := P) (w := w) (base := base) (Tb := Tb) T SB ER A_need_book C_book_fault
  have C_book_text := ok_book_text (P := P) (w := w) (base := base) (Tb := Tb) T SB ER A_book_text C_need_book C_line_of C_choice_text
  have C_read_book := ok_read_book (P := P) (w := w) (base := base) (Tb := Tb) T SB ER A_read_book C_Reader___init__ C_Reader_need C_Reader_has_word C_need_book C_Reader_need_last
  exact ok_law T SB ER F C__law_begun C__law_books C__law_draw C_book_text C_read_book
theorem all_mk {l : PySem.W.OpenLaw} {w : World} {K : PySem.W.Frag} {h : Heap} {mg : Str → Option Value} {fa : Addr} {f_is_whole : Addr} {oc_is_whole kV_is_whole dc_is_whole pm_is_whole cd_is_whole ct_is_whole : Value} {od_is_whole an_is_whole : Option Addr} {sl_is_whole : Array (Option Value)} {f_is_tuple_of : Addr} {oc_is_tuple_of kV_is_tuple_of dc_is_tuple_of pm_is_tuple_of cd_is_tuple_of ct_is_tuple_of : Value} {od_is_tuple_of an_is_tuple_of : Option Addr} {sl_is_tuple_of : Array (Option Value)} {f_follows_in : Addr} {oc_follows_in kV_follows_in dc_follows_in pm_follows_in cd_follows_in ct_follows_in : Value} {od_follows_in an_follows_in : Option Addr} {sl_follows_in : Array (Option Value)} {f_line_of : Addr} {oc_line_of kV_line_of dc_line_of pm_line_of cd_line_of ct_line_of : Value} {od_line_of an_line_of : Option Addr} {sl_line_of : Array (Option Value)} {f_choice_text : Addr} {oc_choice_text kV_choice_text dc_choice_text pm_choice_text cd_choice_text ct_choice_text : Value} {od_choice_text an_choice_text : Option Addr} {sl_choice_text : Array (Option Value)} {f_number_in : Addr} {oc_number_in kV_number_in dc_number_in pm_number_in cd_number_in ct_number_in : Value} {od_number_in an_number_in : Option Addr} {sl_number_in : Array (Option Value)} {f_Reader___init__ : Addr} {oc_Reader___init__ kV_Reader___init__ dc_Reader___init__ pm_Reader___init__ cd_Reader___init__ ct_Reader___init__ : Value} {od_Reader___init__ an_Reader___init__ : Option Addr} {sl_Reader___init__ : Array (Option Value)} {f_Reader_has_word : Addr} {oc_Reader_has_word kV_Reader_has_word dc_Reader_has_word pm_Reader_has_word cd_Reader_has_word ct_Reader_has_word : Value} {od_Reader_has_word an_Reader_has_word : Option Addr} {sl_Reader_has_word : Array (Option Value)} {f__law_begun : Addr} {oc__law_begun kV__law_begun dc__law_begun pm__law_begun cd__law_begun ct__law_begun : Value} {od__law_begun an__law_begun : Option Addr} {sl__law_begun : Array (Option Value)} {f__law_draw : Addr} {oc__law_draw kV__law_draw dc__law_draw pm__law_draw cd__law_draw ct__law_draw : Value} {od__law_draw an__law_draw : Option Addr} {sl__law_draw : Array (Option Value)} {f__law_books : Addr} {oc__law_books kV__law_books dc__law_books pm__law_books cd__law_books ct__law_books : Value} {od__law_books an__law_books : Option Addr} {sl__law_books : Array (Option Value)} {f_is_choice : Addr} {oc_is_choice kV_is_choice dc_is_choice pm_is_choice cd_is_choice ct_is_choice : Value} {od_is_choice an_is_choice : Option Addr} {sl_is_choice : Array (Option Value)} {f_numbers_fault : Addr} {oc_numbers_fault kV_numbers_fault dc_numbers_fault pm_numbers_fault cd_numbers_fault ct_numbers_fault : Value} {od_numbers_fault an_numbers_fault : Option Addr} {sl_numbers_fault : Array (Option Value)} {f_choice_in : Addr} {oc_choice_in kV_choice_in dc_choice_in pm_choice_in cd_choice_in ct_choice_in : Value} {od_choice_in an_choice_in : Option Addr} {sl_choice_in : Array (Option Value)} {f_is_row : Addr} {oc_is_row kV_is_row dc_is_row pm_is_row cd_is_row ct_is_row : Value} {od_is_row an_is_row : Option Addr} {sl_is_row : Array (Option Value)} {f_Reader_need : Addr} {oc_Reader_need kV_Reader_need dc_Reader_need pm_Reader_need cd_Reader_need ct_Reader_need : Value} {od_Reader_need an_Reader_need : Option Addr} {sl_Reader_need : Array (Option Value)} {f_Reader_need_last : Addr} {oc_Reader_need_last kV_Reader_need_last dc_Reader_need_last pm_Reader_need_last cd_Reader_need_last ct_Reader_need_last : Value} {od_Reader_need_last an_Reader_need_last : Option Addr} {sl_Reader_need_last : Array (Option Value)} {f_first_fault : Addr} {oc_first_fault kV_first_fault dc_first_fault pm_first_fault cd_first_fault ct_first_fault : Value} {od_first_fault an_first_fault : Option Addr} {sl_first_fault : Array (Option Value)} {f_book_fault : Addr} {oc_book_fault kV_book_fault dc_book_fault pm_book_fault  ct_book_fault : Value} {od_book_fault an_book_fault : Option Addr} {sl_book_fault : Array (Option Value)} {c_book_fault P_book_fault : Addr} {uc_book_fault : Value} {ud_book_fault : Option Addr} {uv_book_fault : Array Value} {us_book_fault : Array (Option Value)} {f_need_book : Addr} {oc_need_book kV_need_book dc_need_book pm_need_book cd_need_book ct_need_book : Value} {od_need_book an_need_book : Option Addr} {sl_need_book : Array (Option Value)} {f_book_text : Addr} {oc_book_text kV_book_text dc_book_text pm_book_text cd_book_text ct_book_text : Value} {od_book_text an_book_text : Option Addr} {sl_book_text : Array (Option Value)} {f_read_book : Addr} {oc_read_book kV_read_book dc_read_book pm_read_book cd_read_book ct_read_book : Value} {od_read_book an_read_book : Option Addr} {sl_read_book : Array (Option Value)} {f_law : Addr} {oc_law kV_law dc_law pm_law cd_law ct_law : Value} {od_law an_law : Option Addr} {sl_law : Array (Option Value)} {C_Reader : Addr} {q_COMMA : Tok} {q_FIGURES : Tok} {q_MOST_TOP : Tok} {q_MOST_LEAST : Tok} {q_NO : Tok} {q_LATE_texts : Tok} {q_YES : Tok} {q_PARTS : Tok} {q_MOST_ROWS : Tok} {q_RULES : Tok} {q_MOST_LOOKS : Tok} {q_LOOKS_books : Tok} {q_LATE_books : Tok} {q_LEAST : Tok} {q_SPEEDS : Tok} {q_LOOKS_texts : Tok} {q_ROW : Tok} {C_BadBook fI_BadBook cc_BadBook cdI_BadBook N0_BadBook : Addr} {nm_BadBook qn_BadBook : Str} {bs_BadBook bm_BadBook sb_BadBook : List Value} {sn_BadBook : List Str} {ab_BadBook : Bool} {co_BadBook : Option Bool} {dd_BadBook : Option Addr} {y0_BadBook y1_BadBook y2_BadBook y3_BadBook y5_BadBook : Option Value} {o1_BadBook o2_BadBook o3_BadBook kI_BadBook do_BadBook pI_BadBook tI_BadBook : Value} {d1_BadBook d2_BadBook d3_BadBook aI_BadBook : Option Addr} {s1_BadBook s2_BadBook s3_BadBook : Array (Option Value)} {vI_BadBook : Array Value} {fl_BadBook : Str} {tf_BadBook : Tok} {cC_BadBook : ClassData} {C_BadText fI_BadText cc_BadText cdI_BadText N0_BadText : Addr} {nm_BadText qn_BadText : Str} {bs_BadText bm_BadText sb_BadText : List Value} {sn_BadText : List Str} {ab_BadText : Bool} {co_BadText : Option Bool} {dd_BadText : Option Addr} {y0_BadText y1_BadText y2_BadText y3_BadText y5_BadText : Option Value} {o1_BadText o2_BadText o3_BadText kI_BadText do_BadText pI_BadText tI_BadText : Value} {d1_BadText d2_BadText d3_BadText aI_BadText : Option Addr} {s1_BadText s2_BadText s3_BadText : Array (Option Value)} {vI_BadText : Array Value} {fl_BadText : Str} {tf_BadText : Tok} {cC_BadText : ClassData}
    (X : K.In h) (G : h.Ns mainGlobals mg) (hfa : mg "law" = some (.ref fa)) (tabs : ∀ y ∈ (["book_fault"] : List Str), ∀ c P, PySem.W.tabIn K y = some (c, P) → PySem.W.CodeHd h c P ∧ h.get? P = some (PySem.W.tabObj #[]))
    (a_Reader : PySem.W.nsIn K mainGlobals "Reader" = some (some (.ref C_Reader)))
    (p1_Reader : PySem.W.plainGet K C_Reader Str.empty = true)
    (p2_Reader : PySem.W.hasDictIn K C_Reader = true)
    (p3_Reader : PySem.W.plainOver K C_Reader = true)
    (p4_Reader : PySem.W.findIn K (.ref C_Reader) "__setattr__" = some (some (.builtin "object.__setattr__")))
    (p5_Reader : PySem.W.makesIn K C_Reader = true)
    (p6_Reader : PySem.W.keepIn K (.ref C_Reader) = true)
    (n_Reader_reader_lines : PySem.W.findIn K (.ref C_Reader) "reader_lines" = some none)
    (n_Reader_reader_at : PySem.W.findIn K (.ref C_Reader) "reader_at" = some none)
    (a_is_whole : PySem.W.nsIn K mainGlobals "is_whole" = some (some (.ref f_is_whole)))
    (l_is_whole : K.lookup f_is_whole = some ⟨oc_is_whole, od_is_whole, .func (PySem.W.fnOf "is_whole" "is_whole" (defArgs s_is_whole) (defBody s_is_whole) (defScope s_is_whole) .none kV_is_whole dc_is_whole pm_is_whole an_is_whole cd_is_whole ct_is_whole), sl_is_whole⟩)
    (e_is_whole : PySem.W.codeIn K cd_is_whole "is_whole" = true)
    (k_is_whole : PySem.W.keepIn K (.ref f_is_whole) = true)
    (a_is_tuple_of : PySem.W.nsIn K mainGlobals "is_tuple_of" = some (some (.ref f_is_tuple_of)))
    (l_is_tuple_of : K.lookup f_is_tuple_of = some ⟨oc_is_tuple_of, od_is_tuple_of, .func (PySem.W.fnOf "is_tuple_of" "is_tuple_of" (defArgs s_is_tuple_of) (defBody s_is_tuple_of) (defScope s_is_tuple_of) .none kV_is_tuple_of dc_is_tuple_of pm_is_tuple_of an_is_tuple_of cd_is_tuple_of ct_is_tuple_of), sl_is_tuple_of⟩)
    (e_is_tuple_of : PySem.W.codeIn K cd_is_tuple_of "is_tuple_of" = true)
    (k_is_tuple_of : PySem.W.keepIn K (.ref f_is_tuple_of) = true)
    (a_follows_in : PySem.W.nsIn K mainGlobals "follows_in" = some (some (.ref f_follows_in)))
    (l_follows_in : K.lookup f_follows_in = some ⟨oc_follows_in, od_follows_in, .func (PySem.W.fnOf "follows_in" "follows_in" (defArgs s_follows_in) (defBody s_follows_in) (defScope s_follows_in) .none kV_follows_in dc_follows_in pm_follows_in an_follows_in cd_follows_in ct_follows_in), sl_follows_in⟩)
    (e_follows_in : PySem.W.codeIn K cd_follows_in "follows_in" = true)
    (k_follows_in : PySem.W.keepIn K (.ref f_follows_in) = true)
    (a_line_of : PySem.W.nsIn K mainGlobals "line_of" = some (some (.ref f_line_of)))
    (l_line_of : K.lookup f_line_of = some ⟨oc_line_of, od_line_of, .func (PySem.W.fnOf "line_of" "line_of" (defArgs s_line_of) (defBody s_line_of) (defScope s_line_of) .none kV_line_of dc_line_of pm_line_of an_line_of cd_line_of ct_line_of), sl_line_of⟩)
    (e_line_of : PySem.W.codeIn K cd_line_of "line_of" = true)
    (k_line_of : PySem.W.keepIn K (.ref f_line_of) = true)
    (a_choice_text : PySem.W.nsIn K mainGlobals "choice_text" = some (some (.ref f_choice_text)))
    (l_choice_text : K.lookup f_choice_text = some ⟨oc_choice_text, od_choice_text, .func (PySem.W.fnOf "choice_text" "choice_text" (defArgs s_choice_text) (defBody s_choice_text) (defScope s_choice_text) .none kV_choice_text dc_choice_text pm_choice_text an_choice_text cd_choice_text ct_choice_text), sl_choice_text⟩)
    (e_choice_text : PySem.W.codeIn K cd_choice_text "choice_text" = true)
    (k_choice_text : PySem.W.keepIn K (.ref f_choice_text) = true)
    (a_number_in : PySem.W.nsIn K mainGlobals "number_in" = some (some (.ref f_number_in)))
    (l_number_in : K.lookup f_number_in = some ⟨oc_number_in, od_number_in, .func (PySem.W.fnOf "number_in" "number_in" (defArgs s_number_in) (defBody s_number_in) (defScope s_number_in) .none kV_number_in dc_number_in pm_number_in an_number_in cd_number_in ct_number_in), sl_number_in⟩)
    (e_number_in : PySem.W.codeIn K cd_number_in "number_in" = true)
    (k_number_in : PySem.W.keepIn K (.ref f_number_in) = true)
    (a_Reader___init__ : PySem.W.findIn K (.ref C_Reader) "__init__" = some (some (.ref f_Reader___init__)))
    (i_Reader___init__ : PySem.W.isFn K (.ref f_Reader___init__) = true)
    (l_Reader___init__ : K.lookup f_Reader___init__ = some ⟨oc_Reader___init__, od_Reader___init__, .func (PySem.W.fnOf "__init__" "Reader.__init__" (defArgs s_Reader___init__) (defBody s_Reader___init__) (defScope s_Reader___init__) .none kV_Reader___init__ dc_Reader___init__ pm_Reader___init__ an_Reader___init__ cd_Reader___init__ ct_Reader___init__), sl_Reader___init__⟩)
    (e_Reader___init__ : PySem.W.codeIn K cd_Reader___init__ "Reader.__init__" = true)
    (k_Reader___init__ : PySem.W.keepIn K (.ref f_Reader___init__) = true)
    (a_Reader_has_word : PySem.W.findIn K (.ref C_Reader) "has_word" = some (some (.ref f_Reader_has_word)))
    (i_Reader_has_word : PySem.W.isFn K (.ref f_Reader_has_word) = true)
    (l_Reader_has_word : K.lookup f_Reader_has_word = some ⟨oc_Reader_has_word, od_Reader_has_word, .func (PySem.W.fnOf "has_word" "Reader.has_word" (defArgs s_Reader_has_word) (defBody s_Reader_has_word) (defScope s_Reader_has_word) .none kV_Reader_has_word dc_Reader_has_word pm_Reader_has_word an_Reader_has_word cd_Reader_has_word ct_Reader_has_word), sl_Reader_has_word⟩)
    (e_Reader_has_word : PySem.W.codeIn K cd_Reader_has_word "Reader.has_word" = true)
    (k_Reader_has_word : PySem.W.keepIn K (.ref f_Reader_has_word) = true)
    (a__law_begun : PySem.W.nsIn K mainGlobals "_law_begun" = some (some (.ref f__law_begun)))
    (l__law_begun : K.lookup f__law_begun = some ⟨oc__law_begun, od__law_begun, .func (PySem.W.fnOf "_law_begun" "_law_begun" (defArgs s__law_begun) (defBody s__law_begun) (defScope s__law_begun) .none kV__law_begun dc__law_begun pm__law_begun an__law_begun cd__law_begun ct__law_begun), sl__law_begun⟩)
    (e__law_begun : PySem.W.codeIn K cd__law_begun "_law_begun" = true)
    (k__law_begun : PySem.W.keepIn K (.ref f__law_begun) = true)
    (a__law_draw : PySem.W.nsIn K mainGlobals "_law_draw" = some (some (.ref f__law_draw)))
    (l__law_draw : K.lookup f__law_draw = some ⟨oc__law_draw, od__law_draw, .func (PySem.W.fnOf "_law_draw" "_law_draw" (defArgs s__law_draw) (defBody s__law_draw) (defScope s__law_draw) .none kV__law_draw dc__law_draw pm__law_draw an__law_draw cd__law_draw ct__law_draw), sl__law_draw⟩)
    (e__law_draw : PySem.W.codeIn K cd__law_draw "_law_draw" = true)
    (k__law_draw : PySem.W.keepIn K (.ref f__law_draw) = true)
    (a__law_books : PySem.W.nsIn K mainGlobals "_law_books" = some (some (.ref f__law_books)))
    (l__law_books : K.lookup f__law_books = some ⟨oc__law_books, od__law_books, .func (PySem.W.fnOf "_law_books" "_law_books" (defArgs s__law_books) (defBody s__law_books) (defScope s__law_books) .none kV__law_books dc__law_books pm__law_books an__law_books cd__law_books ct__law_books), sl__law_books⟩)
    (e__law_books : PySem.W.codeIn K cd__law_books "_law_books" = true)
    (k__law_books : PySem.W.keepIn K (.ref f__law_books) = true)
    (a_is_choice : PySem.W.nsIn K mainGlobals "is_choice" = some (some (.ref f_is_choice)))
    (l_is_choice : K.lookup f_is_choice = some ⟨oc_is_choice, od_is_choice, .func (PySem.W.fnOf "is_choice" "is_choice" (defArgs s_is_choice) (defBody s_is_choice) (defScope s_is_choice) .none kV_is_choice dc_is_choice pm_is_choice an_is_choice cd_is_choice ct_is_choice), sl_is_choice⟩)
    (e_is_choice : PySem.W.codeIn K cd_is_choice "is_choice" = true)
    (k_is_choice : PySem.W.keepIn K (.ref f_is_choice) = true)
    (a_numbers_fault : PySem.W.nsIn K mainGlobals "numbers_fault" = some (some (.ref f_numbers_fault)))
    (l_numbers_fault : K.lookup f_numbers_fault = some ⟨oc_numbers_fault, od_numbers_fault, .func (PySem.W.fnOf "numbers_fault" "numbers_fault" (defArgs s_numbers_fault) (defBody s_numbers_fault) (defScope s_numbers_fault) .none kV_numbers_fault dc_numbers_fault pm_numbers_fault an_numbers_fault cd_numbers_fault ct_numbers_fault), sl_numbers_fault⟩)
    (e_numbers_fault : PySem.W.codeIn K cd_numbers_fault "numbers_fault" = true)
    (k_numbers_fault : PySem.W.keepIn K (.ref f_numbers_fault) = true)
    (a_choice_in : PySem.W.nsIn K mainGlobals "choice_in" = some (some (.ref f_choice_in)))
    (l_choice_in : K.lookup f_choice_in = some ⟨oc_choice_in, od_choice_in, .func (PySem.W.fnOf "choice_in" "choice_in" (defArgs s_choice_in) (defBody s_choice_in) (defScope s_choice_in) .none kV_choice_in dc_choice_in pm_choice_in an_choice_in cd_choice_in ct_choice_in), sl_choice_in⟩)
    (e_choice_in : PySem.W.codeIn K cd_choice_in "choice_in" = true)
    (k_choice_in : PySem.W.keepIn K (.ref f_choice_in) = true)
    (a_is_row : PySem.W.nsIn K mainGlobals "is_row" = some (some (.ref f_is_row)))
    (l_is_row : K.lookup f_is_row = some ⟨oc_is_row, od_is_row, .func (PySem.W.fnOf "is_row" "is_row" (defArgs s_is_row) (defBody s_is_row) (defScope s_is_row) .none kV_is_row dc_is_row pm_is_row an_is_row cd_is_row ct_is_row), sl_is_row⟩)
    (e_is_row : PySem.W.codeIn K cd_is_row "is_row" = true)
    (k_is_row : PySem.W.keepIn K (.ref f_is_row) = true)
    (a_Reader_need : PySem.W.findIn K (.ref C_Reader) "need" = some (some (.ref f_Reader_need)))
    (i_Reader_need : PySem.W.isFn K (.ref f_Reader_need) = true)
    (l_Reader_need : K.lookup f_Reader_need = some ⟨oc_Reader_need, od_Reader_need, .func (PySem.W.fnOf "need" "Reader.need" (defArgs s_Reader_need) (defBody s_Reader_need) (defScope s_Reader_need) .none kV_Reader_need dc_Reader_need pm_Reader_need an_Reader_need cd_Reader_need ct_Reader_need), sl_Reader_need⟩)
    (e_Reader_need : PySem.W.codeIn K cd_Reader_need "Reader.need" = true)
    (k_Reader_need : PySem.W.keepIn K (.ref f_Reader_need) = true)
    (a_Reader_need_last : PySem.W.findIn K (.ref C_Reader) "need_last" = some (some (.ref f_Reader_need_last)))
    (i_Reader_need_last : PySem.W.isFn K (.ref f_Reader_need_last) = true)
    (l_Reader_need_last : K.lookup f_Reader_need_last = some ⟨oc_Reader_need_last, od_Reader_need_last, .func (PySem.W.fnOf "need_last" "Reader.need_last" (defArgs s_Reader_need_last) (defBody s_Reader_need_last) (defScope s_Reader_need_last) .none kV_Reader_need_last dc_Reader_need_last pm_Reader_need_last an_Reader_need_last cd_Reader_need_last ct_Reader_need_last), sl_Reader_need_last⟩)
    (e_Reader_need_last : PySem.W.codeIn K cd_Reader_need_last "Reader.need_last" = true)
    (k_Reader_need_last : PySem.W.keepIn K (.ref f_Reader_need_last) = true)
    (a_first_fault : PySem.W.nsIn K mainGlobals "first_fault" = some (some (.ref f_first_fault)))
    (l_first_fault : K.lookup f_first_fault = some ⟨oc_first_fault, od_first_fault, .func (PySem.W.fnOf "first_fault" "first_fault" (defArgs s_first_fault) (defBody s_first_fault) (defScope s_first_fault) .none kV_first_fault dc_first_fault pm_first_fault an_first_fault cd_first_fault ct_first_fault), sl_first_fault⟩)
    (e_first_fault : PySem.W.codeIn K cd_first_fault "first_fault" = true)
    (k_first_fault : PySem.W.keepIn K (.ref f_first_fault) = true)
    (a_book_fault : PySem.W.nsIn K mainGlobals "book_fault" = some (some (.ref f_book_fault)))
    (l_book_fault : K.lookup f_book_fault = some ⟨oc_book_fault, od_book_fault, .func (PySem.W.fnOf "book_fault" "book_fault" (defArgs s_book_fault) (defBody s_book_fault) (defScope s_book_fault) .none kV_book_fault dc_book_fault pm_book_fault an_book_fault (.ref c_book_fault) ct_book_fault), sl_book_fault⟩)
    (e_book_fault : PySem.W.codeIn K (.ref c_book_fault) "book_fault" = true)
    (k_book_fault : PySem.W.keepIn K (.ref f_book_fault) = true)
    (u_book_fault : K.lookup c_book_fault = some ⟨uc_book_fault, ud_book_fault, .fields uv_book_fault, us_book_fault⟩)
    (x_book_fault : uv_book_fault[11]? = some (.ref P_book_fault))
    (n_book_fault : K.lookup P_book_fault = none)
    (a_need_book : PySem.W.nsIn K mainGlobals "need_book" = some (some (.ref f_need_book)))
    (l_need_book : K.lookup f_need_book = some ⟨oc_need_book, od_need_book, .func (PySem.W.fnOf "need_book" "need_book" (defArgs s_need_book) (defBody s_need_book) (defScope s_need_book) .none kV_need_book dc_need_book pm_need_book an_need_book cd_need_book ct_need_book), sl_need_book⟩)
    (e_need_book : PySem.W.codeIn K cd_need_book "need_book" = true)
    (k_need_book : PySem.W.keepIn K (.ref f_need_book) = true)
    (a_book_text : PySem.W.nsIn K mainGlobals "book_text" = some (some (.ref f_book_text)))
    (l_book_text : K.lookup f_book_text = some ⟨oc_book_text, od_book_text, .func (PySem.W.fnOf "book_text" "book_text" (defArgs s_book_text) (defBody s_book_text) (defScope s_book_text) .none kV_book_text dc_book_text pm_book_text an_book_text cd_book_text ct_book_text), sl_book_text⟩)
    (e_book_text : PySem.W.codeIn K cd_book_text "book_text" = true)
    (k_book_text : PySem.W.keepIn K (.ref f_book_text) = true)
    (a_read_book : PySem.W.nsIn K mainGlobals "read_book" = some (some (.ref f_read_book)))
    (l_read_book : K.lookup f_read_book = some ⟨oc_read_book, od_read_book, .func (PySem.W.fnOf "read_book" "read_book" (defArgs s_read_book) (defBody s_read_book) (defScope s_read_book) .none kV_read_book dc_read_book pm_read_book an_read_book cd_read_book ct_read_book), sl_read_book⟩)
    (e_read_book : PySem.W.codeIn K cd_read_book "read_book" = true)
    (k_read_book : PySem.W.keepIn K (.ref f_read_book) = true)
    (a_law : PySem.W.nsIn K mainGlobals "law" = some (some (.ref f_law)))
    (l_law : K.lookup f_law = some ⟨oc_law, od_law, .func (PySem.W.fnOf "law" "law" (defArgs s_law) (defBody s_law) (defScope s_law) .none kV_law dc_law pm_law an_law cd_law ct_law), sl_law⟩)
    (e_law : PySem.W.codeIn K cd_law "law" = true)
    (k_law : PySem.W.keepIn K (.ref f_law) = true)
    (b_isinstance : PySem.W.nsIn K mainGlobals "isinstance" = some none)
    (b_int : PySem.W.nsIn K mainGlobals "int" = some none)
    (b_bool : PySem.W.nsIn K mainGlobals "bool" = some none)
    (b_tuple : PySem.W.nsIn K mainGlobals "tuple" = some none)
    (b_len : PySem.W.nsIn K mainGlobals "len" = some none)
    (b_list : PySem.W.nsIn K mainGlobals "list" = some none)
    (b_range : PySem.W.nsIn K mainGlobals "range" = some none)
    (b_max : PySem.W.nsIn K mainGlobals "max" = some none)
    (b_min : PySem.W.nsIn K mainGlobals "min" = some none)
    (b_str : PySem.W.nsIn K mainGlobals "str" = some none)
    (b_all : PySem.W.nsIn K mainGlobals "all" = some none)
    (b_zip : PySem.W.nsIn K mainGlobals "zip" = some none)
    (b_enumerate : PySem.W.nsIn K mainGlobals "enumerate" = some none)
    (b_repr : PySem.W.nsIn K mainGlobals "repr" = some none)
    (b_super : PySem.W.nsIn K mainGlobals "super" = some none)
    (v_COMMA : PySem.W.nsIn K mainGlobals "COMMA" = some (some (.str "," q_COMMA)))
    (v_FIGURES : PySem.W.nsIn K mainGlobals "FIGURES" = some (some (.str "0123456789" q_FIGURES)))
    (v_MOST_TOP : PySem.W.nsIn K mainGlobals "MOST_TOP" = some (some (.int 3 q_MOST_TOP)))
    (v_MOST_LEAST : PySem.W.nsIn K mainGlobals "MOST_LEAST" = some (some (.int 9 q_MOST_LEAST)))
    (v_NO : PySem.W.nsIn K mainGlobals "NO" = some (some (.str "no" q_NO)))
    (v_LATE_texts : PySem.W.nsIn K mainGlobals "LATE_texts" = some (some (.str "late" q_LATE_texts)))
    (v_YES : PySem.W.nsIn K mainGlobals "YES" = some (some (.str "yes" q_YES)))
    (v_PARTS : PySem.W.nsIn K mainGlobals "PARTS" = some (some (.int 7 q_PARTS)))
    (v_MOST_ROWS : PySem.W.nsIn K mainGlobals "MOST_ROWS" = some (some (.int 6 q_MOST_ROWS)))
    (v_RULES : PySem.W.nsIn K mainGlobals "RULES" = some (some (.int 5 q_RULES)))
    (v_MOST_LOOKS : PySem.W.nsIn K mainGlobals "MOST_LOOKS" = some (some (.int 6 q_MOST_LOOKS)))
    (v_LOOKS_books : PySem.W.nsIn K mainGlobals "LOOKS_books" = some (some (.int 4 q_LOOKS_books)))
    (v_LATE_books : PySem.W.nsIn K mainGlobals "LATE_books" = some (some (.int 6 q_LATE_books)))
    (v_LEAST : PySem.W.nsIn K mainGlobals "LEAST" = some (some (.str "least" q_LEAST)))
    (v_SPEEDS : PySem.W.nsIn K mainGlobals "SPEEDS" = some (some (.str "speeds" q_SPEEDS)))
    (v_LOOKS_texts : PySem.W.nsIn K mainGlobals "LOOKS_texts" = some (some (.str "looks" q_LOOKS_texts)))
    (v_ROW : PySem.W.nsIn K mainGlobals "ROW" = some (some (.str "row" q_ROW)))
    (t_super : (l.prog.main.scope.names.lookup ("super" : Str)).isSome = false)
    (t_any : PySem.W.nsIn K cStatics "thirdparty.any" = some none)
    (a_BadBook : PySem.W.nsIn K mainGlobals "BadBook" = some (some (.ref C_BadBook)))
    (l_BadBook : K.lookup C_BadBook = some (excClassObj nm_BadBook qn_BadBook C_BadBook N0_BadBook bs_BadBook bm_BadBook true sn_BadBook sb_BadBook ab_BadBook co_BadBook dd_BadBook y0_BadBook y1_BadBook y2_BadBook y3_BadBook y5_BadBook "ValueError.__new__"))
    (m_BadBook : PySem.HandSPX.refsVE bm_BadBook = true)
    (g1_BadBook : PySem.W.findIn K (.ref C_BadBook) "__setattr__" = some (some (.builtin "object.__setattr__")))
    (g2_BadBook : PySem.W.subIn K (.ref C_BadBook) (.type "BaseException") = some true)
    (g3_BadBook : PySem.W.typeIn K (.ref C_BadBook) = some (.type "type"))
    (g4_BadBook : PySem.W.keepIn K (.ref C_BadBook) = true)
    (h1_BadBook : PySem.W.findIn K (.ref C_BadBook) "__init__" = some (some (.ref fI_BadBook)))
    (h2_BadBook : PySem.W.typeIn K (.ref fI_BadBook) = some (.type "function"))
    (h3_BadBook : K.lookup fI_BadBook = some ⟨o1_BadBook, d1_BadBook, .func (PySem.W.fnX "__init__" "BadBook.__init__" (defArgs i_BadBook) (defBody i_BadBook) (defScope i_BadBook) [("__class__", cc_BadBook)] .none kI_BadBook do_BadBook pI_BadBook aI_BadBook (.ref cdI_BadBook) tI_BadBook), s1_BadBook⟩)
    (h4_BadBook : PySem.W.codeIn K (.ref cdI_BadBook) "BadBook.__init__" = true)
    (h5_BadBook : K.lookup cdI_BadBook = some ⟨o2_BadBook, d2_BadBook, .fields vI_BadBook, s2_BadBook⟩)
    (h6_BadBook : vI_BadBook[2]? = some (.str fl_BadBook tf_BadBook))
    (h7_BadBook : ((l.prog.main.file : Str) == fl_BadBook) = true)
    (h8_BadBook : K.lookup cc_BadBook = some ⟨o3_BadBook, d3_BadBook, .cell (some (.ref C_BadBook)), s3_BadBook⟩)
    (j1_BadBook : PySem.W.clsIn K C_BadBook = some cC_BadBook)
    (j2_BadBook : PySem.W.alongIn K "__init__" ((cC_BadBook.mro.dropWhile (· != .ref C_BadBook)).drop 1) = some (some (.builtin "ValueError.__init__")))
    (j3_BadBook : PySem.W.mroIn K C_BadBook (.ref C_BadBook) = some true)
    (j4_BadBook : PySem.W.subIn K (.ref C_BadBook) (.type "ValueError") = some true)
    (f_BadBook_part : PySem.W.findIn K (.ref C_BadBook) "part" = some none)
    (f_BadBook_number : PySem.W.findIn K (.ref C_BadBook) "number" = some none)
    (w1_BadBook : PySem.W.findIn K (.ref C_BadBook) "__getattribute__" = some (some (.builtin "BaseException.__getattribute__")))
    (w2_BadBook : PySem.W.findIn K (.ref C_BadBook) "__getattr__" = some none)
    (w3_BadBook : PySem.W.hasDictIn K C_BadBook = true)
    (a_BadText : PySem.W.nsIn K mainGlobals "BadText" = some (some (.ref C_BadText)))
    (l_BadText : K.lookup C_BadText = some (excClassObj nm_BadText qn_BadText C_BadText N0_BadText bs_BadText bm_BadText true sn_BadText sb_BadText ab_BadText co_BadText dd_BadText y0_BadText y1_BadText y2_BadText y3_BadText y5_BadText "ValueError.__new__"))
    (m_BadText : PySem.HandSPX.refsVE bm_BadText = true)
    (g1_BadText : PySem.W.findIn K (.ref C_BadText) "__setattr__" = some (some (.builtin "object.__setattr__")))
    (g2_BadText : PySem.W.subIn K (.ref C_BadText) (.type "BaseException") = some true)
    (g3_BadText : PySem.W.typeIn K (.ref C_BadText) = some (.type "type"))
    (g4_BadText : PySem.W.keepIn K (.ref C_BadText) = true)
    (h1_BadText : PySem.W.findIn K (.ref C_BadText) "__init__" = some (some (.ref fI_BadText)))
    (h2_BadText : PySem.W.typeIn K (.ref fI_BadText) = some (.type "function"))
    (h3_BadText : K.lookup fI_BadText = some ⟨o1_BadText, d1_BadText, .func (PySem.W.fnX "__init__" "BadText.__init__" (defArgs i_BadText) (defBody i_BadText) (defScope i_BadText) [("__class__", cc_BadText)] .none kI_BadText do_BadText pI_BadText aI_BadText (.ref cdI_BadText) tI_BadText), s1_BadText⟩)
    (h4_BadText : PySem.W.codeIn K (.ref cdI_BadText) "BadText.__init__" = true)
    (h5_BadText : K.lookup cdI_BadText = some ⟨o2_BadText, d2_BadText, .fields vI_BadText, s2_BadText⟩)
    (h6_BadText : vI_BadText[2]? = some (.str fl_BadText tf_BadText))
    (h7_BadText : ((l.prog.main.file : Str) == fl_BadText) = true)
    (h8_BadText : K.lookup cc_BadText = some ⟨o3_BadText, d3_BadText, .cell (some (.ref C_BadText)), s3_BadText⟩)
    (j1_BadText : PySem.W.clsIn K C_BadText = some cC_BadText)
    (j2_BadText : PySem.W.alongIn K "__init__" ((cC_BadText.mro.dropWhile (· != .ref C_BadText)).drop 1) = some (some (.builtin "ValueError.__init__")))
    (j3_BadText : PySem.W.mroIn K C_BadText (.ref C_BadText) = some true)
    (j4_BadText : PySem.W.subIn K (.ref C_BadText) (.type "ValueError") = some true)
    (f_BadText_place : PySem.W.findIn K (.ref C_BadText) "place" = some none)
    (w1_BadText : PySem.W.findIn K (.ref C_BadText) "__getattribute__" = some (some (.builtin "BaseException.__getattribute__")))
    (w2_BadText : PySem.W.findIn K (.ref C_BadText) "__getattr__" = some none)
    (w3_BadText : PySem.W.hasDictIn K C_BadText = true)
    (y_BadBook_BadBook : PySem.W.subIn K (.ref C_BadBook) (.ref C_BadBook) = some true)
    (y_BadBook_BadText : PySem.W.subIn K (.ref C_BadBook) (.ref C_BadText) = some false)
    (y_BadText_BadBook : PySem.W.subIn K (.ref C_BadText) (.ref C_BadBook) = some false)
    (y_BadText_BadText : PySem.W.subIn K (.ref C_BadText) (.ref C_BadText) = some true)
    (hm : ∀ ns : List Int, ns.length ≤ 63 → (∀ z ∈ ns, Builtin.Int.intBits z ≤ 1048576) → ∃ g, m_law [.scr ns] [] = .ok (.bl true) g) : LawG l w K 9 63 "_law_script" mg fa h := by
  have A_is_whole := at_mk (st := s_is_whole) X G a_is_whole l_is_whole e_is_whole k_is_whole
  have A_is_tuple_of := at_mk (st := s_is_tuple_of) X G a_is_tuple_of l_is_tuple_of e_is_tuple_of k_is_tuple_of
  have A_follows_in := at_mk (st := s_follows_in) X G a_follows_in l_follows_in e_follows_in k_follows_in
  have A_line_of := at_mk (st := s_line_of) X G a_line_of l_line_of e_line_of k_line_of
  have A_choice_text := at_mk (st := s_choice_text) X G a_choice_text l_choice_text e_choice_text k_choice_text
  have A_number_in := at_mk (st := s_number_in) X G a_number_in l_number_in e_number_in k_number_in
  have A_Reader___init__ := ati_mk (st := s_Reader___init__) a_Reader___init__ i_Reader___init__ l_Reader___init__ e_Reader___init__ k_Reader___init__ p5_Reader p6_Reader
  have A_Reader_has_word := atm_mk (st := s_Reader_has_word) a_Reader_has_word i_Reader_has_word l_Reader_has_word e_Reader_has_word k_Reader_has_word
  have A__law_begun := at_mk (st := s__law_begun) X G a__law_begun l__law_begun e__law_begun k__law_begun
  have A__law_draw := at_mk (st := s__law_draw) X G a__law_draw l__law_draw e__law_draw k__law_draw
  have A__law_books := at_mk (st := s__law_books) X G a__law_books l__law_books e__law_books k__law_books
  have A_is_choice := at_mk (st := s_is_choice) X G a_is_choice l_is_choice e_is_choice k_is_choice
  have A_numbers_fault := at_mk (st := s_numbers_fault) X G a_numbers_fault l_numbers_fault e_numbers_fault k_numbers_fault
  have A_choice_in := at_mk (st := s_choice_in) X G a_choice_in l_choice_in e_choice_in k_choice_in
  have A_is_row := at_mk (st := s_is_row) X G a_is_row l_is_row e_is_row k_is_row
  have A_Reader_need := atm_mk (st := s_Reader_need) a_Reader_need i_Reader_need l_Reader_need e_Reader_need k_Reader_need
  have A_Reader_need_last := atm_mk (st := s_Reader_need_last) a_Reader_need_last i_Reader_need_last l_Reader_need_last e_Reader_need_last k_Reader_need_last
  have A_first_fault := at_mk (st := s_first_fault) X G a_first_fault l_first_fault e_first_fault k_first_fault
  have A_book_fault := atC_mk (st := s_book_fault) X G a_book_fault l_book_fault e_book_fault k_book_fault
  have A_need_book := at_mk (st := s_need_book) X G a_need_book l_need_book e_need_book k_need_book
  have A_book_text := at_mk (st := s_book_text) X G a_book_text l_book_text e_book_text k_book_text
  have A_read_book := at_mk (st := s_read_book) X G a_read_book l_read_book e_read_book k_read_book
  have T : Tx mg := ⟨PySem.W.mg_none_of X G b_isinstance, PySem.W.mg_none_of X G b_int, PySem.W.mg_none_of X G b_bool, PySem.W.mg_none_of X G b_tuple, PySem.W.mg_none_of X G b_len, PySem.W.mg_none_of X G b_list, PySem.W.mg_none_of X G b_range, PySem.W.mg_none_of X G b_max, PySem.W.mg_none_of X G b_min, PySem.W.mg_none_of X G b_str, PySem.W.mg_none_of X G b_all, PySem.W.mg_none_of X G b_zip, PySem.W.mg_none_of X G b_enumerate, PySem.W.mg_none_of X G b_repr, PySem.W.mg_none_of X G b_super, str_mk X G v_COMMA, str_mk X G v_FIGURES, int_mk X G v_MOST_TOP, int_mk X G v_MOST_LEAST, str_mk X G v_NO, str_mk X G v_LATE_texts, str_mk X G v_YES, int_mk X G v_PARTS, int_mk X G v_MOST_ROWS, int_mk X G v_RULES, int_mk X G v_MOST_LOOKS, int_mk X G v_LOOKS_books, int_mk X G v_LATE_books, str_mk X G v_LEAST, str_mk X G v_SPEEDS, str_mk X G v_LOOKS_texts, str_mk X G v_ROW⟩
  obtain ⟨fd, F, hb⟩ := law_mk (st := s_law) (y := "_law_script") X G hfa (fun _ _ _ _ _ _ s v => .of_eq rfl) a_law l_law e_law k_law
  have tt_book_fault := tabs "book_fault" (by simp) _ _ (tabIn_of (hc := rfl) a_book_fault l_book_fault u_book_fault x_book_fault)
  have E_BadBook : ∀ (base : Heap) (Tb : List (Addr × Str)), ErrC l.prog w base ⟨K, mg, Lt, Tb⟩ "BadBook" ["part", "number"] C_BadBook := fun base Tb => err_mk (ps := ["part", "number"]) rfl rfl (PySem.W.mg_of X G a_BadBook) l_BadBook m_BadBook g1_BadBook g2_BadBook g3_BadBook g4_BadBook h1_BadBook h2_BadBook h3_BadBook h4_BadBook h5_BadBook h6_BadBook h7_BadBook h8_BadBook j1_BadBook j2_BadBook j3_BadBook T.b_super t_super t_any j4_BadBook (fa_cons f_BadBook_part (fa_cons f_BadBook_number (fa_nil))) w1_BadBook w2_BadBook w3_BadBook ⟨_, rfl, rfl⟩ (lamSc_by (by decide +kernel)) rfl rfl (by decide) (fun us hl => match us, hl with | [_, _, _], _ => rfl) (fun _ => ⟨_, rfl⟩) (fun O A outer s H E L1 H0 a ws Q hl ha h => match ws, hl, h with | [_, _], _, h => body2 O f_BadBook_part f_BadBook_number ha (pv 0) (pv 1) rfl (pv 0) (pv 2) rfl h)
  have E_BadText : ∀ (base : Heap) (Tb : List (Addr × Str)), ErrC l.prog w base ⟨K, mg, Lt, Tb⟩ "BadText" ["place"] C_BadText := fun base Tb => err_mk (ps := ["place"]) rfl rfl (PySem.W.mg_of X G a_BadText) l_BadText m_BadText g1_BadText g2_BadText g3_BadText g4_BadText h1_BadText h2_BadText h3_BadText h4_BadText h5_BadText h6_BadText h7_BadText h8_BadText j1_BadText j2_BadText j3_BadText T.b_super t_super t_any j4_BadText (fa_cons f_BadText_place (fa_nil)) w1_BadText w2_BadText w3_BadText ⟨_, rfl, rfl⟩ (lamSc_by (by decide +kernel)) rfl rfl (by decide) (fun us hl => match us, hl with | [_, _], _ => rfl) (fun _ => ⟨_, rfl⟩) (fun O A outer s H E L1 H0 a ws Q hl ha h => match ws, hl, h with | [_], _, h => body1 O f_BadText_place ha (pv 0) (pv 1) rfl h)
  have XA : ExAll K [("BadBook", C_BadBook), ("BadText", C_BadText)] := fa_cons (fa_cons (exm_mk g2_BadBook w3_BadBook g3_BadBook y_BadBook_BadBook) (fa_cons (exm_mk g2_BadText w3_BadText g3_BadText y_BadBook_BadText) (fa_nil))) (fa_cons (fa_cons (exm_mk g2_BadBook w3_BadBook g3_BadBook y_BadText_BadBook) (fa_cons (exm_mk g2_BadText w3_BadText g3_BadText y_BadText_BadText) (fa_nil))) (fa_nil))
  exact law_at (L := Lt) (m := m_law) [(c_book_fault, P_book_fault)] [(P_book_fault, ("book_fault.<locals>.<lambda>" : Str))] (fa_cons ⟨_, List.mem_of_getElem? (i := 0) rfl, rfl⟩ (fa_nil)) (fa_cons ⟨tt_book_fault.2, n_book_fault, tt_book_fault.1⟩ (fa_nil)) hb hm fun base KB GB SB TB => ok_all T SB ⟨E_BadBook base _, E_BadText base _, XA, ⟨PySem.W.mg_of X G a_Reader, ⟨p1_Reader, p2_Reader, p3_Reader, p4_Reader⟩⟩, n_Reader_reader_lines, n_Reader_reader_at⟩ A_is_whole A_is_tuple_of A_follows_in A_line_of A_choice_text A_number_in A_Reader___init__ A_Reader_has_word A__law_begun A__law_draw A__law_books A_is_choice A_numbers_fault A_choice_in A_is_row A_Reader_need A_Reader_need_last A_first_fault A_book_fault (TB _ (List.mem_of_getElem? (i := 0) rfl)) (List.mem_of_getElem? (i := 0) rfl) (fa_cons (fun _ => rfl) (fa_nil)) A_need_book A_book_text A_read_book F
def isTs : R (Fl × Ev) → Bool
  | .ok (.rt (.bl true), _) _ => true
  | _ => false
theorem isTs_of {m : R (Fl × Ev)} (h : isTs m = true) : ∃ e g, m = .ok (.rt (.bl true), e) g := by
  cases m with
  | ok p g =>
    obtain ⟨f, e⟩ := p
    cases f with
    | rt d =>
      cases d with
      | bl b =>
        cases b
        · cases h
        · exact ⟨e, g, rfl⟩
      | _ => cases h
    | _ => cases h
  | _ => cases h
def bks : D := match m__law_books [] [] with
  | .ok d _ => d
  | _ => .non
theorem bks_at : m__law_books [] [] = .ok bks [] := by kernel_rfl
theorem bks_is (g : G) : m__law_books [] g = .ok bks g := by rw [fr__law_books [] g, bks_at]; rfl
def rest43 : MS := (mSeq (mFor (mItL (mBin fAdd (mSl (mPk 2) (mPart (mVar 3)) (mNo)) (mSl (mPk 2) (mNo) (mPart (mVar 3))))) (bTup [4, 5]) (mIfS (mOrT (mTst (mBin fNe (mFn 1 m_book_text (mCons (mVar 4) (mNil))) (mPk 5))) (mTst (mReprCmp true (mFn 1 m_read_book (mCons (mVar 5) (mNil))) (mPk 4)))) (mRet (mC (.bl false))) (mSkip))) (mRet (mC (.bl true))))
def env43 (ns : List Int) (r : Int) : Ev := [.val (.scr ns), .val (.gr 0), .val bks, .val (.int r), .no, .no]
theorem r43_0 (ns : List Int) (g : G) : isTs (rest43 (env43 ns 0) g) = true := by kernel_rfl
theorem r43_1 (ns : List Int) (g : G) : isTs (rest43 (env43 ns 1) g) = true := by kernel_rfl
theorem r43_2 (ns : List Int) (g : G) : isTs (rest43 (env43 ns 2) g) = true := by kernel_rfl
theorem law_true : ∀ ns : List Int, ns.length ≤ 63 → (∀ z ∈ ns, Builtin.Int.intBits z ≤ 1048576) → ∃ g, m_law [.scr ns] [] = .ok (.bl true) g := fun ns hl _ => by
  obtain ⟨gs, egs⟩ : ∃ gs, gs = ns.filter fun n => decide ((10 : Int) ^ 18 ≤ n) := ⟨_, rfl⟩
  have lg : gs.length ≤ 63 := by rw [egs]; exact Nat.le_trans (List.length_filter_le _ _) hl
  have hb : m__law_begun [.scr ns] [] = .ok (.gr 0) [gS gs (seedOf 11 ns) 0] := by rw [egs]; exact begun_ok ns []
  obtain ⟨r, gs', t', hd, h0, h3, _⟩ := draw_ok (g := [gS gs (seedOf 11 ns) 0]) (n := 0) (gs := gs) (s := seedOf 11 ns) (t := 0) (lim := 3) rfl (by omega) (by omega) (by omega) (by omega) (by omega)
  have hd : m__law_draw [.gr 0, .int 3] [gS gs (seedOf 11 ns) 0] = .ok (.int r) [gS gs' (seedOf 11 ns) t'] := hd
  have A1 : mAsg (mFn 1 m__law_begun (mCons (mVar 0) (mNil))) (bName 1) [.val (.scr ns), .no, .no, .no, .no, .no] [] = .ok (.nx, [.val (.scr ns), .val (.gr 0), .no, .no, .no, .no]) [gS gs (seedOf 11 ns) 0] :=
    ev_asg (ev_fn (show mCons (mVar 0) (mNil) [.val (.scr ns), .no, .no, .no, .no, .no] [] = .ok [.scr ns] [] from rfl) rfl hb)
  have A2 : mAsg (mFn 0 m__law_books mNil) (bName 2) [.val (.scr ns), .val (.gr 0), .no, .no, .no, .no] [gS gs (seedOf 11 ns) 0] = .ok (.nx, [.val (.scr ns), .val (.gr 0), .val bks, .no, .no, .no]) [gS gs (seedOf 11 ns) 0] :=
    ev_asg (ev_fn rfl rfl (bks_is _))
  have A3 : mAsg (mFn 2 m__law_draw (mCons (mVar 1) (mCons (mBlt fLen (mCons (mPk 2) (mNil))) (mNil)))) (bName 3) [.val (.scr ns), .val (.gr 0), .val bks, .no, .no, .no] [gS gs (seedOf 11 ns) 0] = .ok (.nx, env43 ns r) [gS gs' (seedOf 11 ns) t'] :=
    ev_asg (ev_fn (show (mCons (mVar 1) (mCons (mBlt fLen (mCons (mPk 2) (mNil))) (mNil))) [.val (.scr ns), .val (.gr 0), .val bks, .no, .no, .no] [gS gs (seedOf 11 ns) 0] = .ok [.gr 0, .int 3] [gS gs (seedOf 11 ns) 0] by kernel_rfl) rfl hd)
  have hR : isTs (rest43 (env43 ns r) [gS gs' (seedOf 11 ns) t']) = true := by
    have h : r = 0 ∨ r = 1 ∨ r = 2 := by omega
    rcases h with e | e | e
    · rw [e]; exact r43_0 ns _
    · rw [e]; exact r43_1 ns _
    · rw [e]; exact r43_2 ns _
  obtain ⟨e, g, hg⟩ := isTs_of hR
  exact ⟨g, ev_def ((ev_seq A1).trans ((ev_seq A2).trans ((ev_seq A3).trans hg)))⟩
end KX
open PySem PySem.W PyProof.Rows
set_option maxRecDepth 100000 in
set_option maxHeartbeats 0 in
theorem PySem.Challenge.cw_gaptrains_k43_texts_by_hand_holds : PySem.Challenge.rw_gaptrains_k43_texts_by_hand.Holds := by
  w_on; o_law; k_head; (case hw => w_witness2)
  k_fill
  refine GT.walk_ofTop (l := PySem.Challenge.rw_gaptrains_k43_texts_by_hand) (n := 63) (k := 9) (x := "_law_script") ["book_fault"] rfl (by decide) rfl ⟨⟨rfl, by decide, by decide⟩, rfl⟩ (by decide +kernel) (by decide +kernel) (fun w h Y => PySem.W.km_in_of Y) ?F
  case F =>
    intro w mg fa h KI G hmg tabs
    refine' KX.all_mk KI G hmg tabs ?a_Reader ?p1_Reader ?p2_Reader ?p3_Reader ?p4_Reader ?p5_Reader ?p6_Reader ?n_Reader_reader_lines ?n_Reader_reader_at ?a_is_whole ?l_is_whole ?e_is_whole ?k_is_whole ?a_is_tuple_of ?l_is_tuple_of ?e_is_tuple_of ?k_is_tuple_of ?a_follows_in ?l_follows_in ?e_follows_in ?k_follows_in ?a_line_of ?l_line_of ?e_line_of ?k_line_of ?a_choice_text ?l_choice_text ?e_choice_text ?k_choice_text ?a_number_in ?l_number_in ?e_number_in ?k_number_in ?a_Reader___init__ ?i_Reader___init__ ?l_Reader___init__ ?e_Reader___init__ ?k_Reader___init__ ?a_Reader_has_word ?i_Reader_has_word ?l_Reader_has_word ?e_Reader_has_word ?k_Reader_has_word ?a__law_begun ?l__law_begun ?e__law_begun ?k__law_begun ?a__law_draw ?l__law_draw ?e__law_draw ?k__law_draw ?a__law_books ?l__law_books ?e__law_books ?k__law_books ?a_is_choice ?l_is_choice ?e_is_choice ?k_is_choice ?a_numbers_fault ?l_numbers_fault ?e_numbers_fault ?k_numbers_fault ?a_choice_in ?l_choice_in ?e_choice_in ?k_choice_in ?a_is_row ?l_is_row ?e_is_row ?k_is_row ?a_Reader_need ?i_Reader_need ?l_Reader_need ?e_Reader_need ?k_Reader_need ?a_Reader_need_last ?i_Reader_need_last ?l_Reader_need_last ?e_Reader_need_last ?k_Reader_need_last ?a_first_fault ?l_first_fault ?e_first_fault ?k_first_fault ?a_book_fault ?l_book_fault ?e_book_fault ?k_book_fault ?u_book_fault ?x_book_fault ?n_book_fault ?a_need_book ?l_need_book ?e_need_book ?k_need_book ?a_book_text ?l_book_text ?e_book_text ?k_book_text ?a_read_book ?l_read_book ?e_read_book ?k_read_book ?a_law ?l_law ?e_law ?k_law ?b_isinstance ?b_int ?b_bool ?b_tuple ?b_len ?b_list ?b_range ?b_max ?b_min ?b_str ?b_all ?b_zip ?b_enumerate ?b_repr ?b_super ?v_COMMA ?v_FIGURES ?v_MOST_TOP ?v_MOST_LEAST ?v_NO ?v_LATE_texts ?v_YES ?v_PARTS ?v_MOST_ROWS ?v_RULES ?v_MOST_LOOKS ?v_LOOKS_books ?v_LATE_books ?v_LEAST ?v_SPEEDS ?v_LOOKS_texts ?v_ROW ?t_super ?t_any ?a_BadBook ?l_BadBook ?m_BadBook ?g1_BadBook ?g2_BadBook ?g3_BadBook ?g4_BadBook ?h1_BadBook ?h2_BadBook ?h3_BadBook ?h4_BadBook ?h5_BadBook ?h6_BadBook ?h7_BadBook ?h8_BadBook ?j1_BadBook ?j2_BadBook ?j3_BadBook ?j4_BadBook ?f_BadBook_part ?f_BadBook_number ?w1_BadBook ?w2_BadBook ?w3_BadBook ?a_BadText ?l_BadText ?m_BadText ?g1_BadText ?g2_BadText ?g3_BadText ?g4_BadText ?h1_BadText ?h2_BadText ?h3_BadText ?h4_BadText ?h5_BadText ?h6_BadText ?h7_BadText ?h8_BadText ?j1_BadText ?j2_BadText ?j3_BadText ?j4_BadText ?f_BadText_place ?w1_BadText ?w2_BadText ?w3_BadText ?y_BadBook_BadBook ?y_BadBook_BadText ?y_BadText_BadBook ?y_BadText_BadText KX.law_true
    (case a_Reader => k_is)
    (case p1_Reader => k_is)
    (case p2_Reader => k_is)
    (case p3_Reader => k_is)
    (case p4_Reader => k_is)
    (case p5_Reader => k_is)
    (case p6_Reader => k_is)
    (case n_Reader_reader_lines => k_is)
    (case n_Reader_reader_at => k_is)
    (case a_is_whole => k_is)
    (case l_is_whole => k_is)
    (case e_is_whole => k_is)
    (case k_is_whole => k_is)
    (case a_is_tuple_of => k_is)
    (case l_is_tuple_of => k_is)
    (case e_is_tuple_of => k_is)
    (case k_is_tuple_of => k_is)
    (case a_follows_in => k_is)
    (case l_follows_in => k_is)
    (case e_follows_in => k_is)
    (case k_follows_in => k_is)
    (case a_line_of => k_is)
    (case l_line_of => k_is)
    (case e_line_of => k_is)
    (case k_line_of => k_is)
    (case a_choice_text => k_is)
    (case l_choice_text => k_is)
    (case e_choice_text => k_is)
    (case k_choice_text => k_is)
    (case a_number_in => k_is)
    (case l_number_in => k_is)
    (case e_number_in => k_is)
    (case k_number_in => k_is)
    (case a_Reader___init__ => k_is)
    (case i_Reader___init__ => k_is)
    (case l_Reader___init__ => k_is)
    (case e_Reader___init__ => k_is)
    (case k_Reader___init__ => k_is)
    (case a_Reader_has_word => k_is)
    (case i_Reader_has_word => k_is)
    (case l_Reader_has_word => k_is)
    (case e_Reader_has_word => k_is)
    (case k_Reader_has_word => k_is)
    (case a__law_begun => k_is)
    (case l__law_begun => k_is)
    (case e__law_begun => k_is)
    (case k__law_begun => k_is)
    (case a__law_draw => k_is)
    (case l__law_draw => k_is)
    (case e__law_draw => k_is)
    (case k__law_draw => k_is)
    (case a__law_books => k_is)
    (case l__law_books => k_is)
    (case e__law_books => k_is)
    (case k__law_books => k_is)
    (case a_is_choice => k_is)
    (case l_is_choice => k_is)
    (case e_is_choice => k_is)
    (case k_is_choice => k_is)
    (case a_numbers_fault => k_is)
    (case l_numbers_fault => k_is)
    (case e_numbers_fault => k_is)
    (case k_numbers_fault => k_is)
    (case a_choice_in => k_is)
    (case l_choice_in => k_is)
    (case e_choice_in => k_is)
    (case k_choice_in => k_is)
    (case a_is_row => k_is)
    (case l_is_row => k_is)
    (case e_is_row => k_is)
    (case k_is_row => k_is)
    (case a_Reader_need => k_is)
    (case i_Reader_need => k_is)
    (case l_Reader_need => k_is)
    (case e_Reader_need => k_is)
    (case k_Reader_need => k_is)
    (case a_Reader_need_last => k_is)
    (case i_Reader_need_last => k_is)
    (case l_Reader_need_last => k_is)
    (case e_Reader_need_last => k_is)
    (case k_Reader_need_last => k_is)
    (case a_first_fault => k_is)
    (case l_first_fault => k_is)
    (case e_first_fault => k_is)
    (case k_first_fault => k_is)
    (case a_book_fault => k_is)
    (case l_book_fault => k_is)
    (case e_book_fault => k_is)
    (case k_book_fault => k_is)
    (case u_book_fault => k_is)
    (case x_book_fault => rfl)
    (case n_book_fault => first | kernel_rfl | rfl)
    (case a_need_book => k_is)
    (case l_need_book => k_is)
    (case e_need_book => k_is)
    (case k_need_book => k_is)
    (case a_book_text => k_is)
    (case l_book_text => k_is)
    (case e_book_text => k_is)
    (case k_book_text => k_is)
    (case a_read_book => k_is)
    (case l_read_book => k_is)
    (case e_read_book => k_is)
    (case k_read_book => k_is)
    (case a_law => k_is)
    (case l_law => k_is)
    (case e_law => k_is)
    (case k_law => k_is)
    (case b_isinstance => k_is)
    (case b_int => k_is)
    (case b_bool => k_is)
    (case b_tuple => k_is)
    (case b_len => k_is)
    (case b_list => k_is)
    (case b_range => k_is)
    (case b_max => k_is)
    (case b_min => k_is)
    (case b_str => k_is)
    (case b_all => k_is)
    (case b_zip => k_is)
    (case b_enumerate => k_is)
    (case b_repr => k_is)
    (case b_super => k_is)
    (case v_COMMA => k_is)
    (case v_FIGURES => k_is)
    (case v_MOST_TOP => k_is)
    (case v_MOST_LEAST => k_is)
    (case v_NO => k_is)
    (case v_LATE_texts => k_is)
    (case v_YES => k_is)
    (case v_PARTS => k_is)
    (case v_MOST_ROWS => k_is)
    (case v_RULES => k_is)
    (case v_MOST_LOOKS => k_is)
    (case v_LOOKS_books => k_is)
    (case v_LATE_books => k_is)
    (case v_LEAST => k_is)
    (case v_SPEEDS => k_is)
    (case v_LOOKS_texts => k_is)
    (case v_ROW => k_is)
    (case t_super => first | rfl | decide +kernel)
    (case t_any => k_is)
    (case a_BadBook => k_is)
    (case l_BadBook => k_is)
    (case m_BadBook => first | rfl | decide +kernel)
    (case g1_BadBook => k_is)
    (case g2_BadBook => k_is)
    (case g3_BadBook => k_is)
    (case g4_BadBook => k_is)
    (case h1_BadBook => k_is)
    (case h2_BadBook => k_is)
    (case h3_BadBook => k_is)
    (case h4_BadBook => k_is)
    (case h5_BadBook => k_is)
    (case h6_BadBook => rfl)
    (case h7_BadBook => first | rfl | decide +kernel)
    (case h8_BadBook => k_is)
    (case j1_BadBook => k_is)
    (case j2_BadBook => first | k_is | kernel_rfl | rfl)
    (case j3_BadBook => k_is)
    (case j4_BadBook => k_is)
    (case f_BadBook_part => k_is)
    (case f_BadBook_number => k_is)
    (case w1_BadBook => k_is)
    (case w2_BadBook => k_is)
    (case w3_BadBook => k_is)
    (case a_BadText => k_is)
    (case l_BadText => k_is)
    (case m_BadText => first | rfl | decide +kernel)
    (case g1_BadText => k_is)
    (case g2_BadText => k_is)
    (case g3_BadText => k_is)
    (case g4_BadText => k_is)
    (case h1_BadText => k_is)
    (case h2_BadText => k_is)
    (case h3_BadText => k_is)
    (case h4_BadText => k_is)
    (case h5_BadText => k_is)
    (case h6_BadText => rfl)
    (case h7_BadText => first | rfl | decide +kernel)
    (case h8_BadText => k_is)
    (case j1_BadText => k_is)
    (case j2_BadText => first | k_is | kernel_rfl | rfl)
    (case j3_BadText => k_is)
    (case j4_BadText => k_is)
    (case f_BadText_place => k_is)
    (case w1_BadText => k_is)
    (case w2_BadText => k_is)
    (case w3_BadText => k_is)
    (case y_BadBook_BadBook => k_is)
    (case y_BadBook_BadText => k_is)
    (case y_BadText_BadBook => k_is)
    (case y_BadText_BadText => k_is)
