import PyProof.Rows.All
import Wide.All
import OpenK.AllK
import Wide.FinOn
import HandS.ForMost
import HandS.ForExc
import HandS.IsInst
import HandS.Conv
import HandS.Zip
import HandS.Walk
import HandS.Deep
import HandS.DictTup
import HandS.DictComp
import HandS.Lambda
import HandS.TupAny
import HandS.TupMul
import HandS.CallSlots
import KE.GoesMore
import HandS.SortRule
import HandS.EndTab
import PySem.Challenge.RW_gaptrains_k10_clear_by_hand
set_option Elab.async false
set_option linter.all false
set_option maxRecDepth 100000
set_option maxHeartbeats 4000000
/-! GtA: data, the relation between data and the layer's values, steps of heaps. -/
namespace GT
open PySem PySem.Spec PyProof.Rows L2

/-- data: what a Python value is worth -/
inductive D where
  | non | bl (b : Bool) | int (i : Int) | str (x : Str)
  | lst (xs : List D) | tup (xs : List D)
  /-- the script -/
  | scr (ns : List Int)
  /-- dicts that are not changed any more: keys ints and texts; keys tuples of them -/
  | dK (kvs : List (Key × D)) | dT (kvs : List (List Key × D))
  /-- an object that may change, by its number -/
  | gr (n : Nat)
  /-- a lambda by its number, with what it has caught -/
  | clo (n : Nat) (ds : List D)

/-- an object that may change -/
inductive GO where
  | dct (kvs : List (Key × D))
  | ins (c : Str) (fs : List (Str × D))
abbrev G := List GO

/-- how a run ends -/
inductive R (α : Type) where
  | ok (a : α) (g : G)
  | exc (c : Str) (fs : List (Str × D)) (g : G)
  | stuck

/-- a lambda of the text -/
structure Lam where
  params : Arguments
  body : Expr
  scope : Scope
  qual : Str
  caps : List Str

/-- what is fixed for a row -/
structure Cst where
  K : PySem.W.Frag
  mg : Str → Option Value
  L : Nat → Lam
  T : List (Addr × Str)

/-- the object at a is o -/
def PinO (a : Addr) (o : Obj) : HO := .frz o (.own a)

mutual
/-- d is what v is worth. r: the places of the objects that may change; W: what else may be written -/
inductive Rp (C : Cst) (r : List Addr) (W : Addr → Prop) (H : Hp) : D → V → Prop
  | non : Rp C r W H .non .non
  | bl (b : Bool) : Rp C r W H (.bl b) (.bl b)
  | int (i : Int) : Rp C r W H (.int i) (.int i)
  | str (x : Str) : Rp C r W H (.str x) (.str x)
  | lst {a : Addr} {xs : List V} {ds : List D} (h : H a = some (.lst xs)) (hz : xs.length ≤ sizeLine) (hr : a ∉ r) (hw : ¬ W a) (q : RpL C r W H ds xs) : Rp C r W H (.lst ds) (.ref a)
  | tup {a : Addr} {xs : List V} {ds : List D} (h : H a = some (.tup xs)) (hz : xs.length ≤ sizeLine) (hr : a ∉ r) (hw : ¬ W a) (q : RpL C r W H ds xs) : Rp C r W H (.tup ds) (.ref a)
  | dK {a : Addr} {ks : List (Key × D)} {xs : List (Key × V)} (h : Rd H a (.dK xs)) (hl : ks.map (·.1) = xs.map (·.1)) (hz : xs.length ≤ sizeLine) (hr : a ∉ r) (hw : ¬ W a) (q : RpL C r W H (ks.map (·.2)) (xs.map (·.2))) : Rp C r W H (.dK ks) (.ref a)
  | dT {a : Addr} {ks : List (List Key × D)} {xs : List (List Key × V)} (h : Rd H a (.dT xs)) (hl : ks.map (·.1) = xs.map (·.1)) (hz : xs.length ≤ sizeLine) (hr : a ∉ r) (hw : ¬ W a) (q : RpL C r W H (ks.map (·.2)) (xs.map (·.2))) : Rp C r W H (.dT ks) (.ref a)
  | scr {a : Addr} {ns : List Int} (h : Rd H a (.lst (ns.map V.int))) (hz : ns.length ≤ sizeLine) (hr : a ∉ r) (hw : ¬ W a) : Rp C r W H (.scr ns) (.ref a)
  | scrK {a : Addr} {ns : List Int} {o : Obj} {its : Array Value} {n : Nat} (h1 : C.K.lookup a = some o) (h2 : o.cls = .type "list") (h3 : o.dict = none) (h4 : o.data = .seq its n) (h5 : its.size ≤ sizeLine) (h6 : Vals (ns.map V.int) its.toList) : Rp C r W H (.scr ns) (.ref a)
  | gr {n : Nat} {a : Addr} (h : r[n]? = some a) : Rp C r W H (.gr n) (.ref a)
  | clo {n : Nat} {f c : Addr} {pm ct : Value} {cl : List (Str × Addr)} {us : List Value} {vs : List V} {ds : List D}
      (hf : H f = some (PinO f (PySem.W.kla_obj "<lambda>" (C.L n).qual (C.L n).params (C.L n).body (C.L n).scope cl pm c ct)))
      (hfr : f ∉ r) (hfw : ¬ W f) (hc : H c = some (LamX.CodeO c (C.L n).qual)) (hcr : c ∉ r) (hcw : ¬ W c)
      (hl : cl.map (·.1) = (C.L n).caps) (hlu : us.length = cl.length) (hi : ∀ x y a, cl.lookup x = some a → cl.lookup y = some a → x = y)
      (ho : ∀ (i : Nat) (p : Str × Addr), cl[i]? = some p → ∃ o u, H p.2 = some (PinO p.2 o) ∧ p.2 ∉ r ∧ ¬ W p.2 ∧ us[i]? = some u ∧ o.data = .cell (some u)) (hv : Vals vs us)
      (q : RpL C r W H ds vs) : Rp C r W H (.clo n ds) (.ref f)
inductive RpL (C : Cst) (r : List Addr) (W : Addr → Prop) (H : Hp) : List D → List V → Prop
  | nil : RpL C r W H [] []
  | cons {d : D} {v : V} {ds : List D} {vs : List V} (h : Rp C r W H d v) (t : RpL C r W H ds vs) : RpL C r W H (d :: ds) (v :: vs)
end

theorem upd_dom {H : Hp} {p : Addr} {o : HO} : ∀ a, upd H p o a = none → H a = none := fun a e => by
  by_cases q : a = p
  · rw [q, upd_same] at e; cases e
  · rw [upd_ne q] at e; exact e
/-- what stays from one heap to a later one -/
structure Kp (r r' : List Addr) (W W' : Addr → Prop) (H H' : Hp) : Prop where
  pre : ∀ (n : Nat) (a : Addr), r[n]? = some a → r'[n]? = some a
  out : ∀ a, a ∈ r' ∨ W' a → a ∈ r ∨ W a ∨ H a = none
  ext : ∀ a o, H a = some o → a ∉ r → ¬ W a → (∀ ps, o ≠ .tbl ps) → H' a = some o
  dom : ∀ a, H' a = none → H a = none

theorem Rd.keep {H H' : Hp} {a : Addr} {o : HO} (h : Rd H a o) (no : ∀ ps, o ≠ .tbl ps) (e : ∀ u, H a = some u → (∀ ps, u ≠ .tbl ps) → H' a = some u) : Rd H' a o := by
  rcases h with h | ⟨b, h⟩
  · exact .inl (e _ h no)
  · exact .inr ⟨b, e _ h (fun ps z => by cases z)⟩
theorem Rd.some {H : Hp} {a : Addr} {o : HO} (h : Rd H a o) : H a ≠ none := by
  rcases h with h | ⟨b, h⟩ <;> rw [h] <;> exact fun z => nomatch z

section
variable {C : Cst} {r r' : List Addr} {W W' : Addr → Prop} {H H' : Hp}
theorem Kp.nr (k : Kp r r' W W' H H') {a : Addr} (ha : H a ≠ none) (hr : a ∉ r) (hw : ¬ W a) : a ∉ r' := fun z => by
  rcases k.out a (.inl z) with h | h | h
  · exact hr h
  · exact hw h
  · exact ha h
theorem Kp.nw (k : Kp r r' W W' H H') {a : Addr} (ha : H a ≠ none) (hr : a ∉ r) (hw : ¬ W a) : ¬ W' a := fun z => by
  rcases k.out a (.inr z) with h | h | h
  · exact hr h
  · exact hw h
  · exact ha h
theorem Kp.refl (r : List Addr) (W : Addr → Prop) (H : Hp) : Kp r r W W H H := ⟨fun _ _ h => h, fun a q => q.elim .inl fun q => .inr (.inl q), fun _ _ h _ _ _ => h, fun _ h => h⟩
theorem Kp.trans {r'' : List Addr} {W'' : Addr → Prop} {H'' : Hp} (k : Kp r r' W W' H H') (t : Kp r' r'' W' W'' H' H'') : Kp r r'' W W'' H H'' where
  pre := fun n a h => t.pre n a (k.pre n a h)
  out := fun a h => by
    rcases t.out a h with q | q | q
    · exact k.out a (.inl q)
    · exact k.out a (.inr q)
    · exact .inr (.inr (k.dom a q))
  ext := fun a o h hr hw no => t.ext a o (k.ext a o h hr hw no) (k.nr (by rw [h]; exact fun z => nomatch z) hr hw) (k.nw (by rw [h]; exact fun z => nomatch z) hr hw) no
  dom := fun a h => k.dom a (t.dom a h)
theorem pin_ne {a : Addr} {o : Obj} : ∀ ps, PinO a o ≠ .tbl ps := fun ps z => by
  unfold PinO at z
  cases z
mutual
theorem Rp.keep (k : Kp r r' W W' H H') : ∀ {d : D} {v : V}, Rp C r W H d v → Rp C r' W' H' d v
  | _, _, .non => .non
  | _, _, .bl b => .bl b
  | _, _, .int i => .int i
  | _, _, .str x => .str x
  | _, _, .lst h hz hr hw q => .lst (k.ext _ _ h hr hw (fun _ z => by cases z)) hz (k.nr (by rw [h]; exact fun z => nomatch z) hr hw) (k.nw (by rw [h]; exact fun z => nomatch z) hr hw) (RpL.keep k q)
  | _, _, .scr h hz hr hw => .scr (Rd.keep h (fun _ z => by cases z) fun u e n => k.ext _ u e hr hw n) hz (k.nr (Rd.some h) hr hw) (k.nw (Rd.some h) hr hw)
  | _, _, .scrK h1 h2 h3 h4 h5 h6 => .scrK h1 h2 h3 h4 h5 h6
  | _, _, .tup h hz hr hw q => .tup (k.ext _ _ h hr hw (fun _ z => by cases z)) hz (k.nr (by rw [h]; exact fun z => nomatch z) hr hw) (k.nw (by rw [h]; exact fun z => nomatch z) hr hw) (RpL.keep k q)
  | _, _, .dK h hl hz hr hw q => .dK (Rd.keep h (fun _ z => by cases z) fun u e n => k.ext _ u e hr hw n) hl hz (k.nr (Rd.some h) hr hw) (k.nw (Rd.some h) hr hw) (RpL.keep k q)
  | _, _, .dT h hl hz hr hw q => .dT (Rd.keep h (fun _ z => by cases z) fun u e n => k.ext _ u e hr hw n) hl hz (k.nr (Rd.some h) hr hw) (k.nw (Rd.some h) hr hw) (RpL.keep k q)
  | _, _, .gr h => .gr (k.pre _ _ h)
  | _, _, .clo hf hfr hfw hc hcr hcw hl hlu hi ho hv q => .clo (k.ext _ _ hf hfr hfw pin_ne) (k.nr (by rw [hf]; exact fun z => nomatch z) hfr hfw) (k.nw (by rw [hf]; exact fun z => nomatch z) hfr hfw)
      (k.ext _ _ hc hcr hcw LamX.codeO_ne) (k.nr (by rw [hc]; exact fun z => nomatch z) hcr hcw) (k.nw (by rw [hc]; exact fun z => nomatch z) hcr hcw) hl hlu hi
      (fun i a e => by
        obtain ⟨o, u, h1, h2, h3, h4, h5⟩ := ho i a e
        exact ⟨o, u, k.ext _ _ h1 h2 h3 pin_ne, k.nr (by rw [h1]; exact fun z => nomatch z) h2 h3, k.nw (by rw [h1]; exact fun z => nomatch z) h2 h3, h4, h5⟩) hv (RpL.keep k q)
theorem RpL.keep (k : Kp r r' W W' H H') : ∀ {ds : List D} {vs : List V}, RpL C r W H ds vs → RpL C r' W' H' ds vs
  | _, _, .nil => .nil
  | _, _, .cons h t => .cons (Rp.keep k h) (RpL.keep k t)
end
end

/-! ### steps -/
structure Step (r r' : List Addr) (H H' : Hp) : Prop where
  pre : ∀ (n : Nat) (a : Addr), r[n]? = some a → r'[n]? = some a
  fresh : ∀ a ∈ r', a ∈ r ∨ H a = none
  ext : ∀ a o, H a = some o → a ∉ r → (∀ ps, o ≠ .tbl ps) → H' a = some o
  dom : ∀ a, H' a = none → H a = none
section
variable {C : Cst} {r r' r'' : List Addr} {W W' : Addr → Prop} {H H' H'' : Hp}
theorem Step.refl (r : List Addr) (H : Hp) : Step r r H H := ⟨fun _ _ h => h, fun _ h => .inl h, fun _ _ h _ _ => h, fun _ h => h⟩
theorem Step.mem (s : Step r r' H H') {a : Addr} (h : a ∈ r) : a ∈ r' := by
  obtain ⟨n, hn⟩ := List.getElem?_of_mem h
  exact List.mem_of_getElem? (s.pre n a hn)
theorem Step.trans (s : Step r r' H H') (t : Step r' r'' H' H'') : Step r r'' H H'' where
  pre := fun n a h => t.pre n a (s.pre n a h)
  fresh := fun a h => by
    rcases t.fresh a h with q | q
    · exact s.fresh a q
    · exact .inr (s.dom a q)
  ext := fun a o h hr no => by
    refine t.ext a o (s.ext a o h hr no) (fun z => ?_) no
    rcases s.fresh a z with q | q
    · exact hr q
    · rw [h] at q; cases q
  dom := fun a h => s.dom a (t.dom a h)
theorem Step.kp (s : Step r r' H H') : Kp r r' W W H H' := ⟨s.pre, fun a h => by
    rcases h with h | h
    · rcases s.fresh a h with q | q
      · exact .inl q
      · exact .inr (.inr q)
    · exact .inr (.inl h), fun a o h hr _ no => s.ext a o h hr no, s.dom⟩
theorem Step.upd {p : Addr} {o : HO} (h : H p = none) : Step r r H (upd H p o) := ⟨fun _ _ h => h, fun _ h => .inl h, fun a u e _ _ => by
    rw [upd_ne (ne_of_none e h)]; exact e, fun a e => by
    by_cases q : a = p
    · subst q; exact h
    · rw [upd_ne q] at e; exact e⟩
theorem Rp.step (s : Step r r' H H') {d : D} {v : V} (h : Rp C r W H d v) : Rp C r' W H' d v := h.keep s.kp
theorem RpL.step (s : Step r r' H H') {d : List D} {v : List V} (h : RpL C r W H d v) : RpL C r' W H' d v := h.keep s.kp
theorem Rp.anti {d : D} {v : V} (h : Rp C r W H d v) (hw : ∀ a, W' a → W a) : Rp C r W' H d v := h.keep ⟨fun _ _ h => h, fun a q => q.elim .inl fun q => .inr (.inl (hw a q)), fun _ _ h _ _ _ => h, fun _ h => h⟩
theorem RpL.anti {d : List D} {v : List V} (h : RpL C r W H d v) (hw : ∀ a, W' a → W a) : RpL C r W' H d v := h.keep ⟨fun _ _ h => h, fun a q => q.elim .inl fun q => .inr (.inl (hw a q)), fun _ _ h _ _ _ => h, fun _ h => h⟩
theorem RpL.length : ∀ {ds : List D} {vs : List V}, RpL C r W H ds vs → ds.length = vs.length
  | _, _, .nil => rfl
  | _, _, .cons _ t => by simp only [List.length_cons, t.length]
theorem RpL.get : ∀ {ds : List D} {vs : List V} {i : Nat} {d : D}, RpL C r W H ds vs → ds[i]? = some d → ∃ v, vs[i]? = some v ∧ Rp C r W H d v
  | _, _, _, _, .nil, e => by simp at e
  | _, _, 0, _, .cons h _, e => by simp at e; subst e; exact ⟨_, rfl, h⟩
  | _, _, i + 1, d, .cons _ t, e => by
    obtain ⟨v, h1, h2⟩ := RpL.get (i := i) (d := d) t (by simpa using e)
    exact ⟨v, by simpa using h1, h2⟩
theorem RpL.getV : ∀ {ds : List D} {vs : List V} {i : Nat} {v : V}, RpL C r W H ds vs → vs[i]? = some v → ∃ d, ds[i]? = some d ∧ Rp C r W H d v
  | _, _, _, _, .nil, e => by simp at e
  | _, _, 0, _, .cons h _, e => by simp at e; subst e; exact ⟨_, rfl, h⟩
  | _, _, i + 1, d, .cons _ t, e => by
    obtain ⟨v, h1, h2⟩ := RpL.getV (i := i) (v := d) t (by simpa using e)
    exact ⟨v, by simpa using h1, h2⟩
theorem RpL.append : ∀ {ds es : List D} {vs ws : List V}, RpL C r W H ds vs → RpL C r W H es ws → RpL C r W H (ds ++ es) (vs ++ ws)
  | _, _, _, _, .nil, s => s
  | _, _, _, _, .cons h t, s => .cons h (t.append s)
theorem RpL.take : ∀ {ds : List D} {vs : List V} (n : Nat), RpL C r W H ds vs → RpL C r W H (ds.take n) (vs.take n)
  | _, _, 0, _ => .nil
  | _, _, _ + 1, .nil => .nil
  | _, _, n + 1, .cons h t => .cons h (t.take n)
theorem RpL.drop : ∀ {ds : List D} {vs : List V} (n : Nat), RpL C r W H ds vs → RpL C r W H (ds.drop n) (vs.drop n)
  | _, _, 0, h => h
  | _, _, _ + 1, .nil => .nil
  | _, _, n + 1, .cons _ t => t.drop n
theorem RpL.dropLast {ds : List D} {vs : List V} (h : RpL C r W H ds vs) : RpL C r W H ds.dropLast vs.dropLast := by
  rw [List.dropLast_eq_take, List.dropLast_eq_take, h.length]
  exact h.take _
end

/-! ### the objects that may change -/
inductive GOR (C : Cst) (r : List Addr) (W : Addr → Prop) (H : Hp) : GO → Addr → Prop
  | dct {a : Addr} {ks : List (Key × D)} {xs : List (Key × V)} (h : H a = some (.dK xs)) (hl : ks.map (·.1) = xs.map (·.1)) (hz : xs.length ≤ sizeLine) (q : RpL C r W H (ks.map (·.2)) (xs.map (·.2))) : GOR C r W H (.dct ks) a
  | ins {a : Addr} {c : Str} {cl dx : Addr} {ks : List (Str × D)} {xs : List (Str × V)} (h : H a = some (.ins cl dx xs)) (hl : ks.map (·.1) = xs.map (·.1)) (hc : C.mg c = some (.ref cl)) (q : RpL C r W H (ks.map (·.2)) (xs.map (·.2))) : GOR C r W H (.ins c ks) a
inductive GOs (C : Cst) (r : List Addr) (W : Addr → Prop) (H : Hp) : G → List Addr → Prop
  | nil : GOs C r W H [] []
  | cons {o : GO} {a : Addr} {g : G} {l : List Addr} (h : GOR C r W H o a) (t : GOs C r W H g l) : GOs C r W H (o :: g) (a :: l)
mutual
/-- no lambda in it -/
def D.nc : D → Bool
  | .non => true
  | .bl _ => true
  | .int _ => true
  | .str _ => true
  | .lst xs => D.ncs xs
  | .tup xs => D.ncs xs
  | .scr _ => true
  | .dK _ => false
  | .dT _ => false
  | .gr _ => true
  | .clo _ _ => false
def D.ncs : List D → Bool
  | [] => true
  | d :: ds => D.nc d && D.ncs ds
end
def GO.nc : GO → Bool
  | .dct kvs => D.ncs (kvs.map (·.2))
  | .ins _ fs => D.ncs (fs.map (·.2))
def gnc (g : G) : Bool := g.all GO.nc
/-- what is never written -/
inductive Nw : HO → Prop
  | tup (xs : List V) : Nw (.tup xs)
  | ext (φ : Heap → Prop) : Nw (.ext φ)
structure Bs (C : Cst) (W : Addr → Prop) (g : G) (r : List Addr) (H : Hp) : Prop where
  tabs : LamX.Tabs C.T H
  nd : r.Nodup
  rtr : ∀ a ∈ r, H a ≠ none
  wtr : ∀ a, W a → H a ≠ none
  dis : ∀ a ∈ r, ¬ W a
  wnt : ∀ a, W a → ∀ o, Nw o → H a ≠ some o
  objs : GOs C r W H g r
  gn : gnc g = true
section
variable {C : Cst} {r r' : List Addr} {W W' : Addr → Prop} {H H' : Hp} {g : G}
theorem GOs.keep (k : Kp r r' W W' H H') : ∀ {g : G} {l : List Addr}, (∀ a ∈ l, H' a = H a) → GOs C r W H g l → GOs C r' W' H' g l
  | _, _, _, .nil => .nil
  | _, _, e, .cons h t => by
    have ea := e _ (List.mem_cons_self ..)
    refine .cons ?_ (t.keep k fun b hb => e b (List.mem_cons_of_mem _ hb))
    cases h with
    | dct h hl hz q => exact .dct (ea.trans h) hl hz (q.keep k)
    | ins h hl hc q => exact .ins (ea.trans h) hl hc (q.keep k)
theorem GOs.nt : ∀ {g : G} {l : List Addr} {a : Addr}, GOs C r W H g l → a ∈ l → ∀ xs, H a ≠ some (.tup xs)
  | _, _, _, .nil, h => by cases h
  | _, _, a, .cons h t, q => fun xs z => by
    rcases List.mem_cons.mp q with e | e
    · subst e
      cases h with
      | dct h => rw [h] at z; cases z
      | ins h => rw [h] at z; cases z
    · exact t.nt e xs z
theorem Bs.w0 (b : Bs C W g r H) {a : Addr} (h : H a = none) : ¬ W a := fun z => b.wtr a z h
theorem Bs.r0 (b : Bs C W g r H) {a : Addr} (h : H a = none) : a ∉ r := fun z => b.rtr a z h
/-- a new object -/
theorem Bs.upd {p : Addr} {o : HO} (b : Bs C W g r H) (hp : H p = none) : Bs C W g r (upd H p o) where
  tabs := b.tabs.ext fun a u e => by rw [upd_ne (ne_of_none e hp)]; exact e
  nd := b.nd
  rtr := fun a ha => by
    by_cases q : a = p
    · rw [q, upd_same]; exact fun z => nomatch z
    · rw [upd_ne q]; exact b.rtr a ha
  wtr := fun a ha => by
    by_cases q : a = p
    · rw [q, upd_same]; exact fun z => nomatch z
    · rw [upd_ne q]; exact b.wtr a ha
  dis := b.dis
  wnt := fun a ha xs n => by
    rw [upd_ne (fun q => b.wtr a ha (by rw [q]; exact hp))]; exact b.wnt a ha xs n
  objs := b.objs.keep (Step.upd hp).kp fun a ha => by
    rw [upd_ne (fun q => b.rtr a ha (by rw [q]; exact hp))]
  gn := b.gn
/-- less may be written -/
theorem Bs.anti (b : Bs C W g r H) (hw : ∀ a, W' a → W a) : Bs C W' g r H :=
  ⟨b.tabs, b.nd, b.rtr, fun a h => b.wtr a (hw a h), fun a h q => b.dis a h (hw a q), fun a h => b.wnt a (hw a h), b.objs.keep ⟨fun _ _ h => h, fun a q => q.elim .inl fun q => .inr (.inl (hw a q)), fun _ _ h _ _ _ => h, fun _ h => h⟩ fun _ _ => rfl, b.gn⟩
/-- one more that may be written, new -/
theorem Bs.more {p : Addr} {o : HO} (b : Bs C W g r H) (hp : H p = none) (nt : ¬ Nw o) : Bs C (fun a => a = p ∨ W a) g r (L2.upd H p o) := by
  have b1 := b.upd (o := o) hp
  refine ⟨b1.tabs, b1.nd, b1.rtr, fun a h => ?_, fun a h q => ?_, fun a h xs n => ?_, ?_, b.gn⟩
  · rcases h with h | h
    · rw [h, upd_same]; exact fun z => nomatch z
    · exact b1.wtr a h
  · rcases q with q | q
    · exact b.rtr a h (by rw [q]; exact hp)
    · exact b.dis a h q
  · rcases h with h | h
    · rw [h, upd_same]; exact fun z => nt (Option.some.inj z ▸ n)
    · exact b1.wnt a h xs n
  · refine b.objs.keep ⟨fun _ _ h => h, fun a q => ?_, fun a u e _ _ _ => by rw [upd_ne (ne_of_none e hp)]; exact e, upd_dom⟩ fun a ha => by rw [upd_ne (fun q => b.rtr a ha (by rw [q]; exact hp))]
    rcases q with q | q | q
    · exact .inl q
    · exact .inr (.inr (by rw [q]; exact hp))
    · exact .inr (.inl q)
/-- what may be written is written -/
theorem Bs.write {p : Addr} {o : HO} (b : Bs C W g r H) (hp : W p) (nt : ∀ ps, H p ≠ some (.tbl ps)) (nu : ¬ Nw o) (ho : ∀ q, H p ≠ some (LamX.CodeO p q)) : Bs C W g r (L2.upd H p o) where
  tabs := fun q hq => by
    obtain ⟨ps, h1, h2, h3⟩ := b.tabs q hq
    refine ⟨ps, ?_, h2, fun pos cv hc => ?_⟩
    · rw [upd_ne (fun z => nt ps (by rw [← z]; exact h1))]; exact h1
    · obtain ⟨c, e1, e2⟩ := h3 pos cv hc
      exact ⟨c, e1, by rw [upd_ne (fun z => ho q.2 (by rw [← z]; exact e2))]; exact e2⟩
  nd := b.nd
  rtr := fun a ha => by rw [upd_ne (fun q => b.dis a ha (by rw [q]; exact hp))]; exact b.rtr a ha
  wtr := fun a ha => by
    by_cases q : a = p
    · rw [q, upd_same]; exact fun z => nomatch z
    · rw [upd_ne q]; exact b.wtr a ha
  dis := b.dis
  wnt := fun a ha xs n => by
    by_cases q : a = p
    · rw [q, upd_same]; exact fun z => nu (Option.some.inj z ▸ n)
    · rw [upd_ne q]; exact b.wnt a ha xs n
  objs := b.objs.keep ⟨fun _ _ h => h, fun a q => q.elim .inl fun q => .inr (.inl q), fun a u e _ hw _ => by rw [upd_ne (fun q => hw (by rw [q]; exact hp))]; exact e, upd_dom⟩ fun a ha => by
    rw [upd_ne (fun q => b.dis a ha (by rw [q]; exact hp))]
  gn := b.gn
theorem Kp.write {p : Addr} {o : HO} (hp : W p) : Kp r r W W H (L2.upd H p o) := ⟨fun _ _ h => h, fun a q => q.elim .inl fun q => .inr (.inl q), fun a u e _ hw _ => by rw [upd_ne (fun q => hw (by rw [q]; exact hp))]; exact e, upd_dom⟩
theorem Kp.more {p : Addr} {o : HO} (hp : H p = none) : Kp r r W (fun a => a = p ∨ W a) H (L2.upd H p o) := ⟨fun _ _ h => h, fun a q => by
    rcases q with q | q | q
    · exact .inl q
    · exact .inr (.inr (by rw [q]; exact hp))
    · exact .inr (.inl q), fun a u e _ _ _ => by rw [upd_ne (ne_of_none e hp)]; exact e, upd_dom⟩
end

/-! ### the names' contents -/
/-- a name: nothing, a datum, or a list or dict of its own that may grow -/
inductive Slot where
  | no | val (d : D) | ol (ds : List D) | oK (kvs : List (Key × D)) | oT (kvs : List (List Key × D))
abbrev Ev := List Slot
inductive SlR (C : Cst) (r : List Addr) (W : Addr → Prop) (H : Hp) : Slot → Option Addr → Option V → Prop
  | no {v : Option V} : SlR C r W H .no none v
  | val {d : D} {v : V} (h : Rp C r W H d v) : SlR C r W H (.val d) none (some v)
  | ol {a : Addr} {ds : List D} {xs : List V} (h : H a = some (.lst xs)) (hz : xs.length ≤ sizeLine) (q : RpL C r W H ds xs) : SlR C r W H (.ol ds) (some a) (some (.ref a))
  | oK {a : Addr} {ks : List (Key × D)} {xs : List (Key × V)} (h : H a = some (.dK xs)) (hl : ks.map (·.1) = xs.map (·.1)) (hz : xs.length ≤ sizeLine) (q : RpL C r W H (ks.map (·.2)) (xs.map (·.2))) : SlR C r W H (.oK ks) (some a) (some (.ref a))
  | oT {a : Addr} {ks : List (List Key × D)} {xs : List (List Key × V)} (h : H a = some (.dT xs)) (hl : ks.map (·.1) = xs.map (·.1)) (hz : xs.length ≤ sizeLine) (q : RpL C r W H (ks.map (·.2)) (xs.map (·.2))) : SlR C r W H (.oT ks) (some a) (some (.ref a))
inductive Sls (C : Cst) (r : List Addr) (W : Addr → Prop) (H : Hp) : Ev → List (Option Addr) → L2.St → Prop
  | nil : Sls C r W H [] [] []
  | cons {s : Slot} {o : Option Addr} {v : Option V} {e : Ev} {l : List (Option Addr)} {σ : L2.St} (h : SlR C r W H s o v) (t : Sls C r W H e l σ) : Sls C r W H (s :: e) (o :: l) (v :: σ)
structure Sm (C : Cst) (W : Addr → Prop) (env : Ev) (oas : List (Option Addr)) (g : G) (r : List Addr) (σ : L2.St) (H : Hp) : Prop where
  bs : Bs C W g r H
  sl : Sls C r W H env oas σ
  own : ∀ a, some a ∈ oas → W a
  ownd : ∀ (i j : Nat) (a : Addr), oas[i]? = some (some a) → oas[j]? = some (some a) → i = j
section
variable {C : Cst} {r r' : List Addr} {W W' : Addr → Prop} {H H' : Hp} {g g' : G} {env : Ev} {oas : List (Option Addr)} {σ : L2.St}
theorem SlR.keep (k : Kp r r' W W' H H') {s : Slot} {o : Option Addr} {v : Option V} (e : ∀ a, o = some a → H' a = H a) (h : SlR C r W H s o v) : SlR C r' W' H' s o v := by
  cases h with
  | no => exact .no
  | val h => exact .val (h.keep k)
  | ol h hz q => exact .ol ((e _ rfl).trans h) hz (q.keep k)
  | oK h hl hz q => exact .oK ((e _ rfl).trans h) hl hz (q.keep k)
  | oT h hl hz q => exact .oT ((e _ rfl).trans h) hl hz (q.keep k)
theorem Sls.keep (k : Kp r r' W W' H H') : ∀ {env : Ev} {oas : List (Option Addr)} {σ : L2.St}, (∀ a, some a ∈ oas → H' a = H a) → Sls C r W H env oas σ → Sls C r' W' H' env oas σ
  | _, _, _, _, .nil => .nil
  | _, _, _, e, .cons h t => .cons (h.keep k fun a q => e a (by rw [q]; exact List.mem_cons_self ..)) (t.keep k fun a q => e a (List.mem_cons_of_mem _ q))
theorem SlR.tr {s : Slot} {a : Addr} {v : Option V} (h : SlR C r W H s (some a) v) : ∃ o, H a = some o ∧ (∀ ps, o ≠ .tbl ps) ∧ ∀ q, o ≠ LamX.CodeO a q := by
  cases h with
  | ol h => exact ⟨_, h, (fun _ z => nomatch z), fun _ z => by unfold LamX.CodeO at z; cases z⟩
  | oK h => exact ⟨_, h, (fun _ z => nomatch z), fun _ z => by unfold LamX.CodeO at z; cases z⟩
  | oT h => exact ⟨_, h, (fun _ z => nomatch z), fun _ z => by unfold LamX.CodeO at z; cases z⟩
theorem Sls.tr : ∀ {env : Ev} {oas : List (Option Addr)} {σ : L2.St} {a : Addr}, Sls C r W H env oas σ → some a ∈ oas → ∃ o, H a = some o ∧ (∀ ps, o ≠ .tbl ps) ∧ ∀ q, o ≠ LamX.CodeO a q
  | _, _, _, _, .nil, h => by cases h
  | _, _, _, a, .cons (o := o) h t, q => by
    rcases List.mem_cons.mp q with e | e
    · subst e; exact h.tr
    · exact t.tr e
theorem Sls.get : ∀ {env : Ev} {oas : List (Option Addr)} {σ : L2.St} {i : Nat} {s : Slot}, Sls C r W H env oas σ → env[i]? = some s → ∃ o v, oas[i]? = some o ∧ σ[i]? = some v ∧ SlR C r W H s o v
  | _, _, _, _, _, .nil, e => by simp at e
  | _, _, _, 0, _, .cons h _, e => by simp at e; subst e; exact ⟨_, _, rfl, rfl, h⟩
  | _, _, _, i + 1, s, .cons _ t, e => by
    obtain ⟨o, v, h1, h2, h3⟩ := Sls.get (i := i) (s := s) t (by simpa using e)
    exact ⟨o, v, by simpa using h1, by simpa using h2, h3⟩
theorem Sls.set {s : Slot} {o : Option Addr} {v : Option V} (h : SlR C r W H s o v) : ∀ {env : Ev} {oas : List (Option Addr)} {σ : L2.St} (i : Nat), Sls C r W H env oas σ → Sls C r W H (env.set i s) (oas.set i o) (σ.set i v)
  | _, _, _, _, .nil => .nil
  | _, _, _, 0, .cons _ t => .cons h t
  | _, _, _, i + 1, .cons q t => .cons q (Sls.set h i t)
theorem Sls.len : ∀ {env : Ev} {oas : List (Option Addr)} {σ : L2.St}, Sls C r W H env oas σ → env.length = σ.length ∧ oas.length = σ.length
  | _, _, _, .nil => ⟨rfl, rfl⟩
  | _, _, _, .cons _ t => ⟨by simp [t.len.1], by simp [t.len.2]⟩
/-- behind an expression -/
theorem Sm.step (m : Sm C W env oas g r σ H) (s : Step r r' H H') (b : Bs C W g' r' H') : Sm C W env oas g' r' σ H' where
  bs := b
  sl := m.sl.keep s.kp fun a ha => by
    obtain ⟨o, h1, h2, _⟩ := m.sl.tr ha
    rw [h1]
    exact s.ext a o h1 (fun z => m.bs.dis a z (m.own a ha)) h2
  own := m.own
  ownd := m.ownd
end
end GT

/-! GtB: readings that simulate; expressions. -/
namespace GT
open PySem PySem.Spec PyProof.Rows L2

def R.bind {α β : Type} (m : R α) (f : α → G → R β) : R β := match m with
  | .ok a g => f a g
  | .exc c fs g => .exc c fs g
  | .stuck => .stuck
def liftO {α : Type} (o : Option α) (g : G) : R α := match o with
  | some a => .ok a g
  | none => .stuck
abbrev ME := Ev → G → R D
abbrev MT := Ev → G → R Bool
abbrev MA := Ev → G → R (List D)

/-- an exception of the class c with the fields fs: its class at cl, its dict at dx -/
def ExR (C : Cst) (r : List Addr) (W : Addr → Prop) (H : Hp) (c : Str) (fs : List (Str × D)) (cl dx : Addr) : Prop :=
  C.mg c = some (.ref cl) ∧ dx ∉ r ∧ ¬ W dx ∧ ∃ (xs : List (Str × V)), fs.map (·.1) = xs.map (·.1) ∧ H dx = some (.xd xs) ∧ RpL C r W H (fs.map (·.2)) (xs.map (·.2))

def Post (C : Cst) (Wx : WX) (W : Addr → Prop) (r : List Addr) (σ : L2.St) (H : Hp) {α β : Type} (Rl : List Addr → Hp → α → β → Prop) (Q : β → Hp → Prop) : R α → Prop
  | .ok d g' => ∀ v H' r', Bs C W g' r' H' → Step r r' H H' → Rl r' H' d v → Q v H'
  | .exc c fs g' => ∀ cl dx H' r', Bs C W g' r' H' → Step r r' H H' → ExR C r' W H' c fs cl dx → Wx (.ref cl) (some dx) σ H'
  | .stuck => False
section
variable {C : Cst} {Wx : WX} {W : Addr → Prop} {r r1 : List Addr} {σ : L2.St} {H H1 : Hp} {α β γ δ : Type} {Rl : List Addr → Hp → α → β → Prop} {Rl2 : List Addr → Hp → γ → δ → Prop} {Q Q' : β → Hp → Prop} {Q2 : δ → Hp → Prop}
theorem Post.mono {m : R α} (h : Post C Wx W r σ H Rl Q m) (k : ∀ v H', Q v H' → Q' v H') : Post C Wx W r σ H Rl Q' m := by
  cases m with
  | ok d g => exact fun v H' r' b s q => k v H' (h v H' r' b s q)
  | exc c fs g => exact h
  | stuck => exact h
theorem Post.after {m : R α} (h : Post C Wx W r σ H Rl Q m) (s : Step r r1 H H1) : Post C Wx W r1 σ H1 Rl Q m := by
  cases m with
  | ok d g => exact fun v H' r' b t q => h v H' r' b (s.trans t) q
  | exc c fs g => exact fun cl dx H' r' b t q => h cl dx H' r' b (s.trans t) q
  | stuck => exact h
/-- what is known behind the first part -/
def Then (C : Cst) (Wx : WX) (W : Addr → Prop) (r : List Addr) (σ : L2.St) (H : Hp) (Rl : List Addr → Hp → α → β → Prop) (Rl2 : List Addr → Hp → γ → δ → Prop) (Q2 : δ → Hp → Prop) (f : α → G → R γ) (v : β) (H1 : Hp) : Prop :=
  ∃ d g1 r1, Bs C W g1 r1 H1 ∧ Step r r1 H H1 ∧ Rl r1 H1 d v ∧ Post C Wx W r1 σ H1 Rl2 Q2 (f d g1)
theorem Post.split {m : R α} {f : α → G → R γ} (h : Post C Wx W r σ H Rl2 Q2 (m.bind f)) : Post C Wx W r σ H Rl (Then C Wx W r σ H Rl Rl2 Q2 f) m := by
  cases m with
  | ok d g => exact fun v H' r' b s q => ⟨d, g, r', b, s, q, Post.after (m := f d g) h s⟩
  | exc c fs g => exact h
  | stuck => exact h
theorem Post.here {d : α} {g : G} {v : β} (h : Post C Wx W r σ H Rl Q (.ok d g)) (b : Bs C W g r H) (q : Rl r H d v) : Q v H := h v H r b (Step.refl _ _) q
end
/-- the same without a new object -/
theorem liftO_some {α : Type} {o : Option α} {g : G} {C : Cst} {Wx : WX} {W : Addr → Prop} {r : List Addr} {σ : L2.St} {H : Hp} {β : Type} {Rl : List Addr → Hp → α → β → Prop} {Q : β → Hp → Prop} (h : Post C Wx W r σ H Rl Q (liftO o g)) : ∃ a, o = some a ∧ Post C Wx W r σ H Rl Q (.ok a g) := by
  cases o with
  | some a => exact ⟨a, rfl, h⟩
  | none => exact h.elim

abbrev RlE (C : Cst) (W : Addr → Prop) : List Addr → Hp → D → V → Prop := fun r H d v => Rp C r W H d v
abbrev RlA (C : Cst) (W : Addr → Prop) : List Addr → Hp → List D → List V → Prop := fun r H d v => RpL C r W H d v
abbrev RlT : List Addr → Hp → Bool → Bool → Prop := fun _ _ b c => c = b
def RE (C : Cst) (Wx : WX) (m : ME) : TE := fun σ H Q => ∃ W env oas g r, Sm C W env oas g r σ H ∧ Post C Wx W r σ H (RlE C W) Q (m env g)
def RT (C : Cst) (Wx : WX) (m : MT) : TT := fun σ H Q => ∃ W env oas g r, Sm C W env oas g r σ H ∧ Post C Wx W r σ H RlT Q (m env g)
def RA (C : Cst) (Wx : WX) (m : MA) : TA := fun σ H Q => ∃ W env oas g r, Sm C W env oas g r σ H ∧ Post C Wx W r σ H (RlA C W) Q (m env g)

/-- a value that is looked at and not handed on: also a list or dict that may still grow -/
inductive PRp (C : Cst) (r : List Addr) (W : Addr → Prop) (H : Hp) : D → V → Prop
  | of {d : D} {v : V} (h : Rp C r W H d v) : PRp C r W H d v
  | lst {a : Addr} {xs : List V} {ds : List D} (h : H a = some (.lst xs)) (hz : xs.length ≤ sizeLine) (hr : a ∉ r) (q : RpL C r W H ds xs) : PRp C r W H (.lst ds) (.ref a)
  | dK {a : Addr} {ks : List (Key × D)} {xs : List (Key × V)} (h : H a = some (.dK xs)) (hl : ks.map (·.1) = xs.map (·.1)) (hz : xs.length ≤ sizeLine) (hr : a ∉ r) (q : RpL C r W H (ks.map (·.2)) (xs.map (·.2))) : PRp C r W H (.dK ks) (.ref a)
  | dT {a : Addr} {ks : List (List Key × D)} {xs : List (List Key × V)} (h : H a = some (.dT xs)) (hl : ks.map (·.1) = xs.map (·.1)) (hz : xs.length ≤ sizeLine) (hr : a ∉ r) (q : RpL C r W H (ks.map (·.2)) (xs.map (·.2))) : PRp C r W H (.dT ks) (.ref a)
abbrev RlP (C : Cst) (W : Addr → Prop) : List Addr → Hp → D → V → Prop := fun r H d v => PRp C r W H d v
def RP (C : Cst) (Wx : WX) (m : ME) : TE := fun σ H Q => ∃ W env oas g r, Sm C W env oas g r σ H ∧ Post C Wx W r σ H (RlP C W) Q (m env g)

section
variable {C : Cst} {r r' : List Addr} {W : Addr → Prop} {H H' : Hp}
theorem PRp.step (s : Step r r' H H') {d : D} {v : V} (h : PRp C r W H d v) : PRp C r' W H' d v := by
  have nr : ∀ {a : Addr} {o : HO}, H a = some o → a ∉ r → a ∉ r' := fun {a o} h hr z => by
    rcases s.fresh a z with q | q
    · exact hr q
    · rw [h] at q; cases q
  cases h with
  | of h => exact .of (h.step s)
  | lst h hz hr q => exact .lst (s.ext _ _ h hr (fun _ z => nomatch z)) hz (nr h hr) (q.step s)
  | dK h hl hz hr q => exact .dK (s.ext _ _ h hr (fun _ z => nomatch z)) hl hz (nr h hr) (q.step s)
  | dT h hl hz hr q => exact .dT (s.ext _ _ h hr (fun _ z => nomatch z)) hl hz (nr h hr) (q.step s)
theorem PRp.isLst {ds : List D} {v : V} (h : PRp C r W H (.lst ds) v) : ∃ a xs, v = .ref a ∧ H a = some (.lst xs) ∧ xs.length ≤ sizeLine ∧ RpL C r W H ds xs := by
  cases h with
  | of h => cases h with | lst h hz _ _ q => exact ⟨_, _, rfl, h, hz, q⟩
  | lst h hz _ q => exact ⟨_, _, rfl, h, hz, q⟩
theorem PRp.isTup {ds : List D} {v : V} (h : PRp C r W H (.tup ds) v) : ∃ a xs, v = .ref a ∧ H a = some (.tup xs) ∧ xs.length ≤ sizeLine ∧ RpL C r W H ds xs := by
  cases h with
  | of h => cases h with | tup h hz _ _ q => exact ⟨_, _, rfl, h, hz, q⟩
theorem PRp.isScr {ns : List Int} {v : V} (h : PRp C r W H (.scr ns) v) : ∃ a, v = .ref a ∧ SqL C.K H a (ns.map V.int) := by
  cases h with
  | of h => cases h with
    | scr h _ _ _ => exact ⟨_, rfl, .inl h⟩
    | scrK h1 h2 h3 h4 h5 h6 => exact ⟨_, rfl, .inr ⟨_, _, _, h1, h2, h3, h4, h5, h6⟩⟩
theorem PRp.isDK {kvs : List (Key × D)} {v : V} (h : PRp C r W H (.dK kvs) v) : ∃ (a : Addr) (xs : List (Key × V)), v = .ref a ∧ Rd H a (.dK xs) ∧ kvs.map (·.1) = xs.map (·.1) ∧ xs.length ≤ sizeLine ∧ a ∉ r ∧ RpL C r W H (kvs.map (·.2)) (xs.map (·.2)) := by
  cases h with
  | of h => cases h with | dK h hl hz hr _ q => exact ⟨_, _, rfl, h, hl, hz, hr, q⟩
  | dK h hl hz hr q => exact ⟨_, _, rfl, .inl h, hl, hz, hr, q⟩
theorem PRp.isDT {kvs : List (List Key × D)} {v : V} (h : PRp C r W H (.dT kvs) v) : ∃ (a : Addr) (xs : List (List Key × V)), v = .ref a ∧ Rd H a (.dT xs) ∧ kvs.map (·.1) = xs.map (·.1) ∧ xs.length ≤ sizeLine ∧ a ∉ r ∧ RpL C r W H (kvs.map (·.2)) (xs.map (·.2)) := by
  cases h with
  | of h => cases h with | dT h hl hz hr _ q => exact ⟨_, _, rfl, h, hl, hz, hr, q⟩
  | dT h hl hz hr q => exact ⟨_, _, rfl, .inl h, hl, hz, hr, q⟩
theorem PRp.isInt {i : Int} {v : V} (h : PRp C r W H (.int i) v) : v = .int i := by cases h with | of h => cases h; rfl
theorem PRp.isStr {i : Str} {v : V} (h : PRp C r W H (.str i) v) : v = .str i := by cases h with | of h => cases h; rfl
theorem PRp.isBl {i : Bool} {v : V} (h : PRp C r W H (.bl i) v) : v = .bl i := by cases h with | of h => cases h; rfl
theorem PRp.isNon {v : V} (h : PRp C r W H .non v) : v = .non := by cases h with | of h => cases h; rfl
theorem Rp.isInt {i : Int} {v : V} (h : Rp C r W H (.int i) v) : v = .int i := by cases h; rfl
theorem Rp.isStr {i : Str} {v : V} (h : Rp C r W H (.str i) v) : v = .str i := by cases h; rfl
theorem Rp.isBl {i : Bool} {v : V} (h : Rp C r W H (.bl i) v) : v = .bl i := by cases h; rfl
theorem Rp.isNon {v : V} (h : Rp C r W H .non v) : v = .non := by cases h; rfl
/-- a new tuple, a new list -/
theorem Rp.newT {p : Addr} {xs : List V} {ds : List D} {g : G} (b : Bs C W g r H) (hp : H p = none) (hz : xs.length ≤ sizeLine) (q : RpL C r W H ds xs) : Rp C r W (upd H p (.tup xs)) (.tup ds) (.ref p) :=
  .tup upd_same hz (b.r0 hp) (b.w0 hp) (q.step (Step.upd hp))
theorem Rp.newL {p : Addr} {xs : List V} {ds : List D} {g : G} (b : Bs C W g r H) (hp : H p = none) (hz : xs.length ≤ sizeLine) (q : RpL C r W H ds xs) : Rp C r W (upd H p (.lst xs)) (.lst ds) (.ref p) :=
  .lst upd_same hz (b.r0 hp) (b.w0 hp) (q.step (Step.upd hp))
end

section
variable {X : Cx} {C : Cst} {Wx : WX}
theorem PEm {e : Expr} {t t' : TE} (h : PE X e t) (k : ∀ σ H Q, t' σ H Q → t σ H Q) : PE X e t' := ⟨fun pins s σ H Q I q => h.run pins s σ H Q I (k σ H Q q)⟩
theorem PTm {e : Expr} {t t' : TT} (h : PT X e t) (k : ∀ σ H Q, t' σ H Q → t σ H Q) : PT X e t' := ⟨fun pins s σ H Q I q => h.run pins s σ H Q I (k σ H Q q)⟩
theorem PWm {e : Expr} {t t' : TT} (h : PW X e t) (k : ∀ σ H Q, t' σ H Q → t σ H Q) : PW X e t' := ⟨fun wh pins s σ H Q I q => h.run wh pins s σ H Q I (k σ H Q q)⟩
theorem PAm {e : List Expr} {t t' : TA} (h : PA X e t) (k : ∀ σ H Q, t' σ H Q → t σ H Q) : PA X e t' := ⟨fun pos pins s σ H Q I q => h.run pos pins s σ H Q I (k σ H Q q)⟩
theorem PSm {e : Stmt} {t t' : TS} (h : PS X e t) (k : ∀ σ H Q, t' σ H Q → t σ H Q) : PS X e t' := ⟨fun pins s σ H Q I q => h.run pins s σ H Q I (k Q σ H q)⟩

/-! ### names and constants -/
def mVar (i : Nat) : ME := fun env g => match env[i]? with
  | some (.val d) => .ok d g
  | _ => .stuck
/-- looked at only -/
def mPk (i : Nat) : ME := fun env g => match env[i]? with
  | some (.val d) => .ok d g
  | some (.ol ds) => .ok (.lst ds) g
  | some (.oK kvs) => .ok (.dK kvs) g
  | some (.oT kvs) => .ok (.dT kvs) g
  | _ => .stuck
def mC (d : D) : ME := fun _ g => .ok d g
theorem re_var {i : Nat} {σ : L2.St} {H : Hp} {Q : VK} (h : RE C Wx (mVar i) σ H Q) : tVar i σ H Q := by
  obtain ⟨W, env, oas, g, r, S, P⟩ := h
  unfold mVar at P
  split at P
  · rename_i d hd
    obtain ⟨o, v, h1, h2, h3⟩ := S.sl.get hd
    cases h3 with
    | val h => exact ⟨_, h2, P.here S.bs h⟩
  · exact P.elim
theorem rp_pk {i : Nat} {σ : L2.St} {H : Hp} {Q : VK} (h : RP C Wx (mPk i) σ H Q) : tVar i σ H Q := by
  obtain ⟨W, env, oas, g, r, S, P⟩ := h
  have nr : ∀ {a : Addr}, oas[i]? = some (some a) → a ∉ r := fun {a} e z => S.bs.dis a z (S.own a (List.mem_of_getElem? e))
  unfold mPk at P
  split at P
  · rename_i d hd
    obtain ⟨o, v, h1, h2, h3⟩ := S.sl.get hd
    cases h3 with
    | val h => exact ⟨_, h2, P.here S.bs (.of h)⟩
  · rename_i d hd
    obtain ⟨o, v, h1, h2, h3⟩ := S.sl.get hd
    cases h3 with
    | ol h hz q => exact ⟨_, h2, P.here S.bs (.lst h hz (nr h1) q)⟩
  · rename_i d hd
    obtain ⟨o, v, h1, h2, h3⟩ := S.sl.get hd
    cases h3 with
    | oK h hl hz q => exact ⟨_, h2, P.here S.bs (.dK h hl hz (nr h1) q)⟩
  · rename_i d hd
    obtain ⟨o, v, h1, h2, h3⟩ := S.sl.get hd
    cases h3 with
    | oT h hl hz q => exact ⟨_, h2, P.here S.bs (.dT h hl hz (nr h1) q)⟩
  · exact P.elim
theorem rp_of {m : ME} {σ : L2.St} {H : Hp} {Q : VK} (h : RP C Wx m σ H Q) : RE C Wx m σ H Q := by
  obtain ⟨W, env, oas, g, r, S, P⟩ := h
  refine ⟨W, env, oas, g, r, S, ?_⟩
  revert P
  cases m env g with
  | ok d g' => exact fun P v H' r' b s q => P v H' r' b s (.of q)
  | exc c fs g' => exact fun P => P
  | stuck => exact fun P => P
theorem re_c {d : D} {v : V} (hv : ∀ r W H, Rp C r W H d v) {σ : L2.St} {H : Hp} {Q : VK} (h : RE C Wx (mC d) σ H Q) : tC v σ H Q := by
  obtain ⟨W, env, oas, g, r, S, P⟩ := h
  exact Post.here (d := d) (g := g) P S.bs (hv r W H)

/-- the name that stands in the i-th place -/
theorem se_var (i : Nat) {x : Str} {pos : Pos} (hN : X.N[i]? = some x := by rfl) (hv : Vis X.env.scope x := by first | exact Or.inl rfl | exact Or.inr (Or.inl rfl) | exact Or.inr (Or.inr rfl)) (hd : (x == ("__debug__" : Str)) = false := by decide)
    (hcd : (x == ("__classdict__" : Str)) = false := by decide) : PE X (.Name x pos) (RE C Wx (mVar i)) := PEm (pe_var hN hv hd hcd) fun _ _ _ h => re_var h
theorem sp_var (i : Nat) {x : Str} {pos : Pos} (hN : X.N[i]? = some x := by rfl) (hv : Vis X.env.scope x := by first | exact Or.inl rfl | exact Or.inr (Or.inl rfl) | exact Or.inr (Or.inr rfl)) (hd : (x == ("__debug__" : Str)) = false := by decide)
    (hcd : (x == ("__classdict__" : Str)) = false := by decide) : PE X (.Name x pos) (RP C Wx (mPk i)) := PEm (pe_var hN hv hd hcd) fun _ _ _ h => rp_pk h
theorem sp_of {e : Expr} {m : ME} (h : PE X e (RE C Wx m)) : PE X e (RP C Wx m) := PEm h fun _ _ _ h => rp_of h
theorem se_int {i j pos} : PE X (.Constant (.int i) j pos) (RE C Wx (mC (.int i))) := PEm pe_int fun _ _ _ h => re_c (fun _ _ _ => .int i) h
theorem se_bl {i j pos} : PE X (.Constant (.bool i) j pos) (RE C Wx (mC (.bl i))) := PEm pe_bl fun _ _ _ h => re_c (fun _ _ _ => .bl i) h
theorem se_str {i j pos} : PE X (.Constant (.str i) j pos) (RE C Wx (mC (.str i))) := PEm pe_str fun _ _ _ h => re_c (fun _ _ _ => .str i) h
theorem se_non {j pos} : PE X (.Constant .none j pos) (RE C Wx (mC .non)) := PEm pe_non fun _ _ _ h => re_c (fun _ _ _ => .non) h
/-- a number or a text of the module -/
theorem se_gint {x : Str} {i : Int} {t : Tok} {pos : Pos} (hg : Gl X x) (hm : X.mg x = some (.int i t)) (hd : (x == ("__debug__" : Str)) = false := by decide) : PE X (.Name x pos) (RE C Wx (mC (.int i))) := PEm (pe_glob (v := .int i) hg hm ⟨t, rfl⟩ hd) fun _ _ _ h => re_c (fun _ _ _ => .int i) h
theorem se_gstr {x : Str} {i : Str} {t : Tok} {pos : Pos} (hg : Gl X x) (hm : X.mg x = some (.str i t)) (hd : (x == ("__debug__" : Str)) = false := by decide) : PE X (.Name x pos) (RE C Wx (mC (.str i))) := PEm (pe_glob (v := .str i) hg hm ⟨t, rfl⟩ hd) fun _ _ _ h => re_c (fun _ _ _ => .str i) h

/-! ### operators -/
def mBin (f : D → D → Option D) (ma mb : ME) : ME := fun env g => (ma env g).bind fun a g1 => (mb env g1).bind fun b g2 => liftO (f a b) g2
/-- the operation's rule r2 does what f says; the parts are only looked at -/
def OpS (C : Cst) (f : D → D → Option D) (r2 : R2) : Prop := ∀ (Wx : WX) (W : Addr → Prop) (g : G) (r : List Addr) (σ : L2.St) (H : Hp) (da db d : D) (x y : V) (Q : VK), f da db = some d → Bs C W g r H → PRp C r W H da x → PRp C r W H db y → Post C Wx W r σ H (RlE C W) Q (.ok d g) → r2 x y H Q
theorem re_bin {f : D → D → Option D} {r2 : R2} {ma mb : ME} (hs : OpS C f r2) {σ : L2.St} {H : Hp} {Q : VK} (h : RE C Wx (mBin f ma mb) σ H Q) : tOp r2 (RP C Wx ma) (RP C Wx mb) σ H Q := by
  obtain ⟨W, env, oas, g, r, S, P⟩ := h
  refine ⟨W, env, oas, g, r, S, Post.mono (Post.split P) fun v H1 ⟨d, g1, r1, b1, s1, p1, q1⟩ => ⟨W, env, oas, g1, r1, S.step s1 b1, Post.mono (Post.split q1) fun w H2 ⟨e, g2, r2, b2, s2, p2, q2⟩ => ?_⟩⟩
  obtain ⟨z, hz, q3⟩ := liftO_some q2
  exact hs Wx W g2 r2 σ H2 d e z v w Q hz b2 (p1.step s2) p2 q3
theorem se_bin {op : Operator} {a b : Expr} {pos : Pos} {f : D → D → Option D} {r2 : R2} {ma mb : ME} (ho : OpR X (binaryOp op) r2) (hs : OpS C f r2) (ha : PE X a (RP C Wx ma)) (hb : PE X b (RP C Wx mb)) : PE X (.BinOp a op b pos) (RE C Wx (mBin f ma mb)) :=
  PEm (pe_op ho ha hb) fun _ _ _ h => re_bin hs h
theorem se_cmp {op : CmpOp} {a b : Expr} {pos : Pos} {f : D → D → Option D} {r2 : R2} {ma mb : ME} (ho : OpR X (compareOp op) r2) (hs : OpS C f r2) (ha : PE X a (RP C Wx ma)) (hb : PE X b (RP C Wx mb)) (hm : behindInMarks op b = false := by rfl) : PE X (.Compare a [op] [b] pos) (RE C Wx (mBin f ma mb)) :=
  PEm (pe_cmpR ho ha hb hm) fun _ _ _ h => re_bin hs h
/-- a test by its value -/
def mTst (m : ME) : MT := fun env g => (m env g).bind fun d g1 => match d with
  | .bl b => .ok b g1
  | _ => .stuck
theorem rt_tst {m : ME} {t : TE} (k : ∀ σ H Q, RE C Wx m σ H Q → t σ H Q) {σ : L2.St} {H : Hp} {Q : Bool → Hp → Prop} (h : RT C Wx (mTst m) σ H Q) : tTest t σ H Q := by
  obtain ⟨W, env, oas, g, r, S, P⟩ := h
  refine k σ H _ ⟨W, env, oas, g, r, S, Post.mono (Post.split P) fun v H1 ⟨d, g1, r1, b1, s1, p1, q1⟩ => ?_⟩
  cases d with
  | bl b => exact ⟨b, p1.isBl, q1.here b1 rfl⟩
  | _ => exact q1.elim
theorem st_cmp {op : CmpOp} {a b : Expr} {pos : Pos} {f : D → D → Option D} {r2 : R2} {ma mb : ME} (ho : OpR X (compareOp op) r2) (hs : OpS C f r2) (ha : PE X a (RP C Wx ma)) (hb : PE X b (RP C Wx mb)) (hm : behindInMarks op b = false := by rfl) : PT X (.Compare a [op] [b] pos) (RT C Wx (mTst (mBin f ma mb))) :=
  PTm (pt_cmpR ho ha hb hm) fun _ _ _ h => rt_tst (fun _ _ _ q => re_bin hs q) h
theorem st_val {e : Expr} {m : ME} (h : PE X e (RE C Wx m)) (he : ∀ whole, isTrue e X.env whole = (do let v ← whole; standAt e.pos; holding [v] (truthy v)) := by intro _; rfl) : PT X e (RT C Wx (mTst m)) :=
  PTm (pt_val h he) fun _ _ _ h => rt_tst (fun _ _ _ q => q) h
/-- a op b op' c -/
def mChain (f f' : D → D → Option D) (ma mb mc : ME) : ME := fun env g => (ma env g).bind fun a g1 => (mb env g1).bind fun b g2 => (liftO (f a b) g2).bind fun k g3 => match k with
  | .bl true => (mc env g3).bind fun c g4 => liftO (f' b c) g4
  | .bl false => .ok (.bl false) g3
  | _ => .stuck
/-- a test gives a truth value and leaves all as it is -/
def OpB (C : Cst) (f : D → D → Option D) (r2 : R2) : Prop := ∀ (W : Addr → Prop) (g : G) (r : List Addr) (H : Hp) (da db d : D) (x y : V) (Q : VK), f da db = some d → Bs C W g r H → PRp C r W H da x → PRp C r W H db y → ∃ b, d = .bl b ∧ (Q (.bl b) H → r2 x y H Q)
theorem OpB.s {f : D → D → Option D} {r2 : R2} (h : OpB C f r2) : OpS C f r2 := fun Wx W g r σ H da db d x y Q e b p1 p2 P => by
  obtain ⟨k, rfl, hk⟩ := h W g r H da db d x y Q e b p1 p2
  exact hk (P.here b (.bl k))
theorem re_chain {f f' : D → D → Option D} {r2 r3 : R2} {ma mb mc : ME} (hs : OpB C f r2) (hs' : OpB C f' r3) {σ : L2.St} {H : Hp} {Q : VK} (h : RE C Wx (mChain f f' ma mb mc) σ H Q) : tChain r2 r3 (RP C Wx ma) (RP C Wx mb) (RP C Wx mc) σ H Q := by
  obtain ⟨W, env, oas, g, r, S, P⟩ := h
  refine ⟨W, env, oas, g, r, S, Post.mono (Post.split P) fun v H1 ⟨d, g1, r1, b1, s1, p1, q1⟩ => ⟨W, env, oas, g1, r1, S.step s1 b1, Post.mono (Post.split q1) fun w H2 ⟨e, g2, r2, b2, s2, p2, q2⟩ => ?_⟩⟩
  dsimp only at q2
  cases hf : f d e with
  | none => rw [hf] at q2; exact q2.elim
  | some z =>
    rw [hf] at q2
    obtain ⟨k, rfl, hk⟩ := hs W g2 r2 H2 d e z v w (fun z H3 => ∃ k, z = .bl k ∧ (if k = true then RP C Wx mc σ H3 fun w' H4 => r3 w w' H4 Q else Q (.bl false) H3)) hf b2 (p1.step s2) p2
    refine hk ⟨k, rfl, ?_⟩
    cases k with
    | false => exact iteF (Post.here (d := D.bl false) (g := g2) q2 b2 (.bl false))
    | true =>
      refine iteT ⟨W, env, oas, g2, r2, (S.step s1 b1).step s2 b2, Post.mono (Post.split (show Post C Wx W r2 σ H2 (RlE C W) Q ((mc env g2).bind fun c g4 => liftO (f' e c) g4) from q2)) fun w' H4 ⟨c, g4, r4, b4, s4, p4, q4⟩ => ?_⟩
      obtain ⟨z, hz, q5⟩ := liftO_some q4
      obtain ⟨k, rfl, hk⟩ := hs' W g4 r4 H4 e c z w w' Q hz b4 (p2.step s4) p4
      exact hk (q5.here b4 (.bl k))
theorem se_chain {op op' : CmpOp} {a b c : Expr} {pos : Pos} {f f' : D → D → Option D} {r2 r3 : R2} {ma mb mc : ME} (ho : OpR X (compareOp op) r2) (hs : OpB C f r2) (ho' : OpR X (compareOp op') r3) (hs' : OpB C f' r3) (ha : PE X a (RP C Wx ma)) (hb : PE X b (RP C Wx mb)) (hc : PE X c (RP C Wx mc))
    (hm : lastMarks [op, op'] [b, c] = false := by with_unfolding_all rfl) : PE X (.Compare a [op, op'] [b, c] pos) (RE C Wx (mChain f f' ma mb mc)) :=
  PEm (pe_chain ho ho' ha hb hc hm) fun _ _ _ h => re_chain hs hs' h
theorem st_chain {op op' : CmpOp} {a b c : Expr} {pos : Pos} {f f' : D → D → Option D} {r2 r3 : R2} {ma mb mc : ME} (ho : OpR X (compareOp op) r2) (hs : OpB C f r2) (ho' : OpR X (compareOp op') r3) (hs' : OpB C f' r3) (ha : PE X a (RP C Wx ma)) (hb : PE X b (RP C Wx mb)) (hc : PE X c (RP C Wx mc))
    (hm : lastMarks [op, op'] [b, c] = false := by with_unfolding_all rfl) : PT X (.Compare a [op, op'] [b, c] pos) (RT C Wx (mTst (mChain f f' ma mb mc))) :=
  PTm (pt_chain ho ho' ha hb hc hm) fun _ _ _ h => rt_tst (fun _ _ _ q => re_chain hs hs' q) h

/-! ### and, or, not, if -/
def mAndT (ma mb : MT) : MT := fun env g => (ma env g).bind fun a g1 => if a then mb env g1 else .ok false g1
def mOrT (ma mb : MT) : MT := fun env g => (ma env g).bind fun a g1 => if a then .ok true g1 else mb env g1
def mNotT (ma : MT) : MT := fun env g => (ma env g).bind fun a g1 => .ok (!a) g1
/-- the value of a test -/
def mBl (m : MT) : ME := fun env g => (m env g).bind fun b g1 => .ok (.bl b) g1
def mIf (c : MT) (ma mb : ME) : ME := fun env g => (c env g).bind fun b g1 => if b then ma env g1 else mb env g1
theorem rt_and {ma mb : MT} {σ : L2.St} {H : Hp} {Q : Bool → Hp → Prop} (h : RT C Wx (mAndT ma mb) σ H Q) : tAnd (RT C Wx ma) (RT C Wx mb) σ H Q := by
  obtain ⟨W, env, oas, g, r, S, P⟩ := h
  refine ⟨W, env, oas, g, r, S, Post.mono (Post.split P) fun c H1 ⟨d, g1, r1, b1, s1, p1, q1⟩ => ?_⟩
  subst p1
  cases c with
  | true => exact iteT ⟨W, env, oas, g1, r1, S.step s1 b1, q1⟩
  | false => exact iteF (Post.here (d := false) (g := g1) q1 b1 rfl)
theorem rt_or {ma mb : MT} {σ : L2.St} {H : Hp} {Q : Bool → Hp → Prop} (h : RT C Wx (mOrT ma mb) σ H Q) : tOr (RT C Wx ma) (RT C Wx mb) σ H Q := by
  obtain ⟨W, env, oas, g, r, S, P⟩ := h
  refine ⟨W, env, oas, g, r, S, Post.mono (Post.split P) fun c H1 ⟨d, g1, r1, b1, s1, p1, q1⟩ => ?_⟩
  subst p1
  cases c with
  | true => exact iteT (Post.here (d := true) (g := g1) q1 b1 rfl)
  | false => exact iteF ⟨W, env, oas, g1, r1, S.step s1 b1, q1⟩
theorem rt_not {ma : MT} {σ : L2.St} {H : Hp} {Q : Bool → Hp → Prop} (h : RT C Wx (mNotT ma) σ H Q) : tNot (RT C Wx ma) σ H Q := by
  obtain ⟨W, env, oas, g, r, S, P⟩ := h
  refine ⟨W, env, oas, g, r, S, Post.mono (Post.split P) fun c H1 ⟨d, g1, r1, b1, s1, p1, q1⟩ => ?_⟩
  subst p1
  exact Post.here (d := !c) (g := g1) q1 b1 rfl
theorem st_and1 {a : Expr} {pos : Pos} {ma : MT} (ha : PT X a (RT C Wx ma)) : PW X (.BoolOp .And [a] pos) (RT C Wx ma) := pw_and1 ha
theorem st_or1 {a : Expr} {pos : Pos} {ma : MT} (ha : PT X a (RT C Wx ma)) : PW X (.BoolOp .Or [a] pos) (RT C Wx ma) := pw_or1 ha
theorem st_and {a b : Expr} {rest : List Expr} {pos : Pos} {ma mb : MT} (ha : PT X a (RT C Wx ma)) (hb : PW X (.BoolOp .And (b :: rest) pos) (RT C Wx mb)) : PW X (.BoolOp .And (a :: b :: rest) pos) (RT C Wx (mAndT ma mb)) := PWm (pw_and ha hb) fun _ _ _ h => rt_and h
theorem st_or {a b : Expr} {rest : List Expr} {pos : Pos} {ma mb : MT} (ha : PT X a (RT C Wx ma)) (hb : PW X (.BoolOp .Or (b :: rest) pos) (RT C Wx mb)) : PW X (.BoolOp .Or (a :: b :: rest) pos) (RT C Wx (mOrT ma mb)) := PWm (pw_or ha hb) fun _ _ _ h => rt_or h
theorem st_not {a : Expr} {pos : Pos} {ma : MT} (ha : PT X a (RT C Wx ma)) : PT X (.UnaryOp .Not a pos) (RT C Wx (mNotT ma)) := PTm (pt_not ha) fun _ _ _ h => rt_not h
/-- as values: truth values -/
def mAndV (ma mb : ME) : ME := fun env g => (ma env g).bind fun a g1 => match a with
  | .bl true => mb env g1
  | .bl false => .ok (.bl false) g1
  | _ => .stuck
def mOrV (ma mb : ME) : ME := fun env g => (ma env g).bind fun a g1 => match a with
  | .bl false => mb env g1
  | .bl true => .ok (.bl true) g1
  | _ => .stuck
def mNotV (ma : ME) : ME := fun env g => (ma env g).bind fun a g1 => match a with
  | .bl b => .ok (.bl (!b)) g1
  | _ => .stuck
theorem re_andV {ma mb : ME} {σ : L2.St} {H : Hp} {Q : VK} (h : RE C Wx (mAndV ma mb) σ H Q) : tAndV (RE C Wx ma) (RE C Wx mb) σ H Q := by
  obtain ⟨W, env, oas, g, r, S, P⟩ := h
  refine ⟨W, env, oas, g, r, S, Post.mono (Post.split P) fun c H1 ⟨d, g1, r1, b1, s1, p1, q1⟩ => ?_⟩
  cases d with
  | bl b =>
    refine ⟨b, p1.isBl, ?_⟩
    cases b with
    | true => exact iteT ⟨W, env, oas, g1, r1, S.step s1 b1, q1⟩
    | false => exact iteF (Post.here (d := D.bl false) (g := g1) q1 b1 (.bl false))
  | _ => exact q1.elim
theorem re_orV {ma mb : ME} {σ : L2.St} {H : Hp} {Q : VK} (h : RE C Wx (mOrV ma mb) σ H Q) : tOrV (RE C Wx ma) (RE C Wx mb) σ H Q := by
  obtain ⟨W, env, oas, g, r, S, P⟩ := h
  refine ⟨W, env, oas, g, r, S, Post.mono (Post.split P) fun c H1 ⟨d, g1, r1, b1, s1, p1, q1⟩ => ?_⟩
  cases d with
  | bl b =>
    refine ⟨b, p1.isBl, ?_⟩
    cases b with
    | false => exact iteF ⟨W, env, oas, g1, r1, S.step s1 b1, q1⟩
    | true => exact iteT (Post.here (d := D.bl true) (g := g1) q1 b1 (.bl true))
  | _ => exact q1.elim
theorem re_notV {ma : ME} {σ : L2.St} {H : Hp} {Q : VK} (h : RE C Wx (mNotV ma) σ H Q) : tNotV (RE C Wx ma) σ H Q := by
  obtain ⟨W, env, oas, g, r, S, P⟩ := h
  refine ⟨W, env, oas, g, r, S, Post.mono (Post.split P) fun c H1 ⟨d, g1, r1, b1, s1, p1, q1⟩ => ?_⟩
  cases d with
  | bl b => exact ⟨b, p1.isBl, Post.here (d := D.bl (!b)) (g := g1) q1 b1 (.bl _)⟩
  | _ => exact q1.elim
theorem se_one {op} {a : Expr} {pos : Pos} {m : ME} (h : PE X a (RE C Wx m)) : PE X (.BoolOp op [a] pos) (RE C Wx m) := pe_one h
theorem se_and {a b : Expr} {rest : List Expr} {pos : Pos} {ma mb : ME} (ha : PE X a (RE C Wx ma)) (hb : PE X (.BoolOp .And (b :: rest) pos) (RE C Wx mb)) : PE X (.BoolOp .And (a :: b :: rest) pos) (RE C Wx (mAndV ma mb)) := PEm (pe_and ha hb) fun _ _ _ h => re_andV h
theorem se_or {a b : Expr} {rest : List Expr} {pos : Pos} {ma mb : ME} (ha : PE X a (RE C Wx ma)) (hb : PE X (.BoolOp .Or (b :: rest) pos) (RE C Wx mb)) : PE X (.BoolOp .Or (a :: b :: rest) pos) (RE C Wx (mOrV ma mb)) := PEm (pe_or ha hb) fun _ _ _ h => re_orV h
theorem se_not {a : Expr} {pos : Pos} {ma : ME} (ha : PE X a (RE C Wx ma)) : PE X (.UnaryOp .Not a pos) (RE C Wx (mNotV ma)) := PEm (pe_not ha) fun _ _ _ h => re_notV h
theorem se_if {c a b : Expr} {pos : Pos} {mc : MT} {ma mb : ME} (hc : PT X c (RT C Wx mc)) (ha : PE X a (RE C Wx ma)) (hb : PE X b (RE C Wx mb)) : PE X (.IfExp c a b pos) (RE C Wx (mIf mc ma mb)) := PEm (pe_ifExp hc ha hb) fun σ H Q h => by
  obtain ⟨W, env, oas, g, r, S, P⟩ := h
  refine ⟨W, env, oas, g, r, S, Post.mono (Post.split P) fun c H1 ⟨d, g1, r1, b1, s1, p1, q1⟩ => ?_⟩
  subst p1
  cases c with
  | true => exact iteT ⟨W, env, oas, g1, r1, S.step s1 b1, q1⟩
  | false => exact iteF ⟨W, env, oas, g1, r1, S.step s1 b1, q1⟩

/-! ### argument lists, displays -/
def mNil : MA := fun _ g => .ok [] g
def mCons (m : ME) (ms : MA) : MA := fun env g => (m env g).bind fun d g1 => (ms env g1).bind fun ds g2 => .ok (d :: ds) g2
theorem sa_nil : PA X [] (RA C Wx mNil) := PAm pa_nil fun σ H Q h => by
  obtain ⟨W, env, oas, g, r, S, P⟩ := h
  exact Post.here (d := []) (g := g) P S.bs .nil
theorem sa_cons {e : Expr} {es : List Expr} {m : ME} {ms : MA} (ha : PE X e (RE C Wx m)) (hr : PA X es (RA C Wx ms)) (hs : starEach (e :: es) X.env = (false, eval e X.env) :: starEach es X.env := by rfl) : PA X (e :: es) (RA C Wx (mCons m ms)) :=
  PAm (pa_cons ha hr hs) fun σ H Q h => by
    obtain ⟨W, env, oas, g, r, S, P⟩ := h
    refine ⟨W, env, oas, g, r, S, Post.mono (Post.split P) fun v H1 ⟨d, g1, r1, b1, s1, p1, q1⟩ => ⟨W, env, oas, g1, r1, S.step s1 b1, Post.mono (Post.split q1) fun w H2 ⟨e, g2, r2, b2, s2, p2, q2⟩ => ?_⟩⟩
    exact Post.here (d := d :: e) (g := g2) q2 b2 (.cons (p1.step s2) p2)
/-- a display's items are not more than the line -/
def mTup (ms : MA) : ME := fun env g => (ms env g).bind fun ds g1 => if ds.length ≤ 1000000 then .ok (.tup ds) g1 else .stuck
def mLst (ms : MA) : ME := fun env g => (ms env g).bind fun ds g1 => if ds.length ≤ 1000000 then .ok (.lst ds) g1 else .stuck
theorem mil {n : Nat} (h : n ≤ 1000000) : n ≤ sizeLine := by rw [sizeLine_eq]; omega
theorem mil' {n : Nat} (h : n < 1000000) : n < sizeLine := by rw [sizeLine_eq]; omega
theorem se_tup {es : List Expr} {x1} {pos : Pos} {ms : MA} (h : PA X es (RA C Wx ms)) : PE X (.Tuple es x1 pos) (RE C Wx (mTup ms)) := PEm (pe_tup h) fun σ H Q h => by
  obtain ⟨W, env, oas, g, r, S, P⟩ := h
  refine ⟨W, env, oas, g, r, S, Post.mono (Post.split P) fun v H1 ⟨d, g1, r1, b1, s1, p1, q1⟩ => ?_⟩
  dsimp only at q1
  split at q1
  · rename_i hl
    have hz : v.length ≤ sizeLine := by rw [← p1.length]; exact mil hl
    exact ⟨hz, fun p hp => q1 _ _ r1 (b1.upd hp) (Step.upd hp) (Rp.newT b1 hp hz p1)⟩
  · exact q1.elim
theorem se_lst {es : List Expr} {pos : Pos} {ms : MA} (h : PA X es (RA C Wx ms)) : PE X (.List es pos) (RE C Wx (mLst ms)) := PEm (pe_lst h) fun σ H Q h => by
  obtain ⟨W, env, oas, g, r, S, P⟩ := h
  refine ⟨W, env, oas, g, r, S, Post.mono (Post.split P) fun v H1 ⟨d, g1, r1, b1, s1, p1, q1⟩ => ?_⟩
  dsimp only at q1
  split at q1
  · rename_i hl
    have hz : v.length ≤ sizeLine := by rw [← p1.length]; exact mil hl
    exact ⟨hz, fun p hp => q1 _ _ r1 (b1.upd hp) (Step.upd hp) (Rp.newL b1 hp hz p1)⟩
  · exact q1.elim
end
end GT

/-! GtC: operators, comparisons, items, slices. -/
namespace GT
open PySem PySem.Spec PyProof.Rows L2

/-! ### data as the library's data -/
mutual
def D.py : D → Option PyData
  | .non => some .none
  | .bl b => some (.bool b)
  | .int i => some (.int i)
  | .str x => some (.str x)
  | .lst xs => (D.pys xs).map .list
  | .tup xs => (D.pys xs).map .tuple
  | .scr _ => none
  | .dK _ => none
  | .dT _ => none
  | .gr _ => none
  | .clo _ _ => none
def D.pys : List D → Option (List PyData)
  | [] => some []
  | d :: ds => match D.py d, D.pys ds with
    | some p, some ps => some (p :: ps)
    | _, _ => none
end
section
variable {C : Cst} {r : List Addr} {W : Addr → Prop} {H : Hp}
mutual
theorem Rp.dp : ∀ {d : D} {v : V} {p : PyData}, Rp C r W H d v → D.py d = some p → Dp C.K H v p
  | _, _, _, .non, e => by simp only [D.py] at e; cases e; exact .non
  | _, _, _, .bl b, e => by simp only [D.py] at e; cases e; exact .bl b
  | _, _, _, .int i, e => by simp only [D.py] at e; cases e; exact .int i
  | _, _, _, .str x, e => by simp only [D.py] at e; cases e; exact .str x
  | _, _, _, .lst h _ _ _ q, e => by
    simp only [D.py, Option.map_eq_some_iff] at e
    obtain ⟨ps, e1, rfl⟩ := e
    exact .lst (.inl (.inl h)) (RpL.dp q e1)
  | _, _, _, .tup h _ _ _ q, e => by
    simp only [D.py, Option.map_eq_some_iff] at e
    obtain ⟨ps, e1, rfl⟩ := e
    exact .tup (.inl (.inl h)) (RpL.dp q e1)
  | _, _, _, .scr _ _ _ _, e => by simp only [D.py] at e; cases e
  | _, _, _, .scrK _ _ _ _ _ _, e => by simp only [D.py] at e; cases e
  | _, _, _, .dK _ _ _ _ _ _, e => by simp only [D.py] at e; cases e
  | _, _, _, .dT _ _ _ _ _ _, e => by simp only [D.py] at e; cases e
  | _, _, _, .gr _, e => by simp only [D.py] at e; cases e
  | _, _, _, .clo _ _ _ _ _ _ _ _ _ _ _ _, e => by simp only [D.py] at e; cases e
theorem RpL.dp : ∀ {ds : List D} {vs : List V} {ps : List PyData}, RpL C r W H ds vs → D.pys ds = some ps → DpAll C.K H vs ps
  | _, _, _, .nil, e => by simp only [D.pys] at e; cases e; exact .nil
  | _, _, _, .cons (d := d) (ds := ds) h t, e => by
    rw [D.pys] at e
    cases e1 : D.py d with
    | none => rw [e1] at e; simp at e
    | some p =>
      cases e2 : D.pys ds with
      | none => rw [e1, e2] at e; simp at e
      | some qs =>
        rw [e1, e2] at e
        cases e
        exact .cons (Rp.dp h e1) (RpL.dp t e2)
end
theorem PRp.dp {d : D} {v : V} {p : PyData} (h : PRp C r W H d v) (e : D.py d = some p) : Dp C.K H v p := by
  cases h with
  | of h => exact h.dp e
  | lst h hz hr q =>
    simp only [D.py, Option.map_eq_some_iff] at e
    obtain ⟨ps, e1, rfl⟩ := e
    exact .lst (.inl (.inl h)) (q.dp e1)
  | dK => simp only [D.py] at e; cases e
  | dT => simp only [D.py] at e; cases e
end
def D.eqv (a b : D) : Option Bool := match D.py a, D.py b with
  | some p, some q => if SeqAt.shaped p && SeqAt.shaped q then some (PyData.eqv p q) else none
  | _, _ => none
def fEq (a b : D) : Option D := (D.eqv a b).map .bl
def fNe (a b : D) : Option D := (D.eqv a b).map fun k => .bl (!k)
theorem eqv_some {a b : D} {k : Bool} (h : D.eqv a b = some k) : ∃ p q, D.py a = some p ∧ D.py b = some q ∧ SeqAt.shaped p = true ∧ SeqAt.shaped q = true ∧ PyData.eqv p q = k := by
  unfold D.eqv at h
  split at h
  · rename_i p q e1 e2
    split at h
    · rename_i hs
      rw [Bool.and_eq_true] at hs
      exact ⟨p, q, e1, e2, hs.1, hs.2, Option.some.inj h⟩
    · cases h
  · cases h
section
variable {C : Cst}
theorem os_eq : OpB C fEq (rEqD C.K) := fun W g r H da db d x y Q e b p1 p2 => by
  unfold fEq at e
  rw [Option.map_eq_some_iff] at e
  obtain ⟨k, e1, rfl⟩ := e
  obtain ⟨p, q, h1, h2, h3, h4, rfl⟩ := eqv_some e1
  exact ⟨_, rfl, fun z => ⟨p, q, p1.dp h1, p2.dp h2, h3, h4, z⟩⟩
theorem os_ne : OpB C fNe (rNeD C.K) := fun W g r H da db d x y Q e b p1 p2 => by
  unfold fNe at e
  rw [Option.map_eq_some_iff] at e
  obtain ⟨k, e1, rfl⟩ := e
  obtain ⟨p, q, h1, h2, h3, h4, rfl⟩ := eqv_some e1
  exact ⟨_, rfl, fun z => ⟨p, q, p1.dp h1, p2.dp h2, h3, h4, z⟩⟩

/-! ### ints; tuples of ints in order -/
def D.ints : List D → Option (List Int)
  | [] => some []
  | .int i :: ds => (D.ints ds).map (i :: ·)
  | _ :: _ => none
theorem ints_rp {r : List Addr} {W : Addr → Prop} {H : Hp} : ∀ {ds : List D} {vs : List V} {ns : List Int}, RpL C r W H ds vs → D.ints ds = some ns → vs = ns.map V.int
  | _, _, _, .nil, e => by simp only [D.ints] at e; cases e; rfl
  | _, _, _, .cons (d := d) (ds := ds) h t, e => by
    cases d with
    | int i =>
      simp only [D.ints, Option.map_eq_some_iff] at e
      obtain ⟨ns, e1, rfl⟩ := e
      rw [h.isInt, ints_rp t e1]
      rfl
    | _ => simp [D.ints] at e
def cmpI (f : Int → Int → Bool) (a b : D) : Option D := match a, b with
  | .int i, .int j => some (.bl (f i j))
  | _, _ => none
theorem os_cmpI (f : Int → Int → Bool) : OpB C (cmpI f) (rI0 fun i j => .bl (f i j)) := fun W g r H da db d x y Q e b p1 p2 => by
  unfold cmpI at e
  split at e
  · cases e
    exact ⟨_, rfl, fun z => ⟨_, _, p1.isInt, p2.isInt, z⟩⟩
  · cases e
def fLt (a b : D) : Option D := match a, b with
  | .int i, .int j => some (.bl (decide (i < j)))
  | .tup xs, .tup ys => match D.ints xs, D.ints ys with
    | some ns, some ms => some (.bl (HT.lexLt ns ms))
    | _, _ => none
  | _, _ => none
abbrev fLe := cmpI fun i j => decide (i ≤ j)
abbrev fGt := cmpI fun i j => decide (j < i)
abbrev fGe := cmpI fun i j => decide (j ≤ i)
def rLtA (K : PySem.W.Frag) : R2 := fun x y H Q => rI0 (fun i j => .bl (decide (i < j))) x y H Q ∨ rLtT K x y H Q
theorem op_ltA {X : Cx} (hu : X.A.units < cLine) : OpR X (compareOp .Lt) (rLtA X.K) := op_lt.or (op_ltT hu)
theorem os_lt : OpB C fLt (rLtA C.K) := fun W g r H da db d x y Q e b p1 p2 => by
  unfold fLt at e
  split at e
  · cases e
    exact ⟨_, rfl, fun z => .inl ⟨_, _, p1.isInt, p2.isInt, z⟩⟩
  · split at e
    · rename_i ns ms e1 e2
      cases e
      obtain ⟨a, us, rfl, h1, _, q1⟩ := p1.isTup
      obtain ⟨a', us', rfl, h2, _, q2⟩ := p2.isTup
      refine ⟨_, rfl, fun z => .inr ⟨a, a', ns, ms, rfl, rfl, .inl (.inl ?_), .inl (.inl ?_), z⟩⟩
      · rw [← ints_rp q1 e1]; exact h1
      · rw [← ints_rp q2 e2]; exact h2
    · cases e
  · cases e
/-- x is None -/
def D.isN : D → Bool
  | .non => true
  | _ => false
def fIsN (a b : D) : Option D := match b with
  | .non => some (.bl a.isN)
  | _ => none
def fNotN (a b : D) : Option D := match b with
  | .non => some (.bl (!a.isN))
  | _ => none
theorem non_iff {r : List Addr} {W : Addr → Prop} {H : Hp} {d : D} {v : V} (h : PRp C r W H d v) : decide (v = .non) = d.isN := by
  cases h with
  | of h => cases h <;> rfl
  | lst => rfl
  | dK => rfl
  | dT => rfl
theorem os_isN : OpB C fIsN (fun x y H Q => y = .non ∧ Q (.bl (decide (x = .non))) H) := fun W g r H da db d x y Q e b p1 p2 => by
  unfold fIsN at e
  split at e
  · cases e
    refine ⟨_, rfl, fun z => ⟨p2.isNon, ?_⟩⟩
    rw [non_iff p1]; exact z
  · cases e
theorem os_notN : OpB C fNotN (fun x y H Q => y = .non ∧ Q (.bl (!decide (x = .non))) H) := fun W g r H da db d x y Q e b p1 p2 => by
  unfold fNotN at e
  split at e
  · cases e
    refine ⟨_, rfl, fun z => ⟨p2.isNon, ?_⟩⟩
    rw [non_iff p1]; exact z
  · cases e

/-! ### dicts -/
def keyOf : D → Option Key
  | .int i => some (.inl i)
  | .str x => some (.inr x)
  | _ => none
def keysOf : List D → Option (List Key)
  | [] => some []
  | d :: ds => match keyOf d, keysOf ds with
    | some k, some ks => some (k :: ks)
    | _, _ => none
def tkeyOf : D → Option (List Key)
  | .tup ds => keysOf ds
  | _ => none
theorem keyOf_rp {r : List Addr} {W : Addr → Prop} {H : Hp} {d : D} {v : V} {k : Key} (h : PRp C r W H d v) (e : keyOf d = some k) : v = kV k := by
  unfold keyOf at e
  split at e
  · cases e; exact h.isInt
  · cases e; exact h.isStr
  · cases e
theorem keysOf_rp {r : List Addr} {W : Addr → Prop} {H : Hp} : ∀ {ds : List D} {vs : List V} {ks : List Key}, RpL C r W H ds vs → keysOf ds = some ks → vs = ks.map kV
  | _, _, _, .nil, e => by simp only [keysOf] at e; cases e; rfl
  | _, _, _, .cons (d := d) (ds := ds) h t, e => by
    rw [keysOf] at e
    cases e1 : keyOf d with
    | none => rw [e1] at e; simp at e
    | some k =>
      cases e2 : keysOf ds with
      | none => rw [e1, e2] at e; simp at e
      | some ks =>
        rw [e1, e2] at e
        cases e
        rw [keyOf_rp (.of h) e1, keysOf_rp t e2]
        rfl
section
variable {κ : Type} [DecidableEq κ]
def valD {α : Type} (kvs : List (κ × α)) (k : κ) : Option α := (kvs.find? fun kv => decide (kv.1 = k)).map (·.2)
def putD {α : Type} (kvs : List (κ × α)) (k : κ) (v : α) : List (κ × α) :=
  if (kvs.any fun kv => decide (kv.1 = k)) = true then kvs.map (fun kv => if kv.1 = k then (kv.1, v) else kv) else kvs ++ [(k, v)]
theorem valD_rp {r : List Addr} {W : Addr → Prop} {H : Hp} (k : κ) : ∀ {ks : List (κ × D)} {xs : List (κ × V)}, ks.map (·.1) = xs.map (·.1) → RpL C r W H (ks.map (·.2)) (xs.map (·.2)) →
    (valD ks k = none ∧ valV xs k = none) ∨ ∃ d v, valD ks k = some d ∧ valV xs k = some v ∧ Rp C r W H d v
  | [], [], _, _ => .inl ⟨rfl, rfl⟩
  | [], _ :: _, e, _ => by simp at e
  | _ :: _, [], e, _ => by simp at e
  | p :: ks, q :: xs, e, h => by
    simp only [List.map_cons, List.cons.injEq] at e
    simp only [List.map_cons] at h
    cases h with
    | cons h t =>
      by_cases z : q.1 = k
      · have z' : p.1 = k := e.1.trans z
        refine .inr ⟨p.2, q.2, by simp [valD, z'], valV_pos z, h⟩
      · have z' : ¬ p.1 = k := fun w => z (e.1.symm.trans w)
        have e1 : valD (p :: ks) k = valD ks k := by simp [valD, z']
        rw [e1, valV_neg z]
        exact valD_rp k e.2 t
theorem any_rp (k : κ) : ∀ {ks : List (κ × D)} {xs : List (κ × V)}, ks.map (·.1) = xs.map (·.1) → (ks.any fun kv => decide (kv.1 = k)) = (xs.any fun kv => decide (kv.1 = k))
  | [], [], _ => rfl
  | [], _ :: _, e => by simp at e
  | _ :: _, [], e => by simp at e
  | p :: ks, q :: xs, e => by
    simp only [List.map_cons, List.cons.injEq] at e
    rw [List.any_cons, List.any_cons, any_rp k e.2, e.1]
theorem repl_rp {r : List Addr} {W : Addr → Prop} {H : Hp} (k : κ) {d : D} {v : V} (hd : Rp C r W H d v) : ∀ {ks : List (κ × D)} {xs : List (κ × V)}, ks.map (·.1) = xs.map (·.1) → RpL C r W H (ks.map (·.2)) (xs.map (·.2)) →
    (ks.map (fun kv => if kv.1 = k then (kv.1, d) else kv)).map (·.1) = (xs.map (fun kv => if kv.1 = k then (kv.1, v) else kv)).map (·.1) ∧
    RpL C r W H ((ks.map (fun kv => if kv.1 = k then (kv.1, d) else kv)).map (·.2)) ((xs.map (fun kv => if kv.1 = k then (kv.1, v) else kv)).map (·.2))
  | [], [], _, _ => ⟨rfl, .nil⟩
  | [], _ :: _, e, _ => by simp at e
  | _ :: _, [], e, _ => by simp at e
  | p :: ks, q :: xs, e, h => by
    simp only [List.map_cons, List.cons.injEq] at e
    simp only [List.map_cons] at h
    cases h with
    | cons h t =>
      obtain ⟨i1, i2⟩ := repl_rp k hd e.2 t
      by_cases z : q.1 = k
      · have z' : p.1 = k := e.1.trans z
        simp only [List.map_cons, z, z', if_true]
        exact ⟨by rw [i1], .cons hd i2⟩
      · have z' : ¬ p.1 = k := fun w => z (e.1.symm.trans w)
        simp only [List.map_cons, z, z', if_false]
        exact ⟨by rw [e.1, i1], .cons h i2⟩
theorem putD_rp {r : List Addr} {W : Addr → Prop} {H : Hp} (k : κ) {d : D} {v : V} (hd : Rp C r W H d v) {ks : List (κ × D)} {xs : List (κ × V)} (e : ks.map (·.1) = xs.map (·.1)) (h : RpL C r W H (ks.map (·.2)) (xs.map (·.2))) :
    (putD ks k d).map (·.1) = (putK xs k v).map (·.1) ∧ RpL C r W H ((putD ks k d).map (·.2)) ((putK xs k v).map (·.2)) := by
  unfold putD putK
  rw [any_rp k e]
  split
  · exact repl_rp k hd e h
  · refine ⟨by simp [e], ?_⟩
    rw [List.map_append, List.map_append]
    exact h.append (.cons hd .nil)
end
theorem dgetK {H : Hp} {a : Addr} {kvs : List (Key × V)} {k : Key} (e : Rd H a (.dK kvs)) : DGet H a (kV k) (valV kvs k) := .inl ⟨kvs, k, e, rfl, rfl⟩
theorem dgetT {H : Hp} {a b : Addr} {kvs : List (List Key × V)} {k : List Key} (e : Rd H a (.dT kvs)) (eb : H b = some (.tup (k.map kV))) : DGet H a (.ref b) (valV kvs k) := .inr ⟨kvs, k, b, e, rfl, eb, rfl⟩
/-- the entry of a dict under a key -/
def dGet (d k : D) : Option (Option D) := match d with
  | .dK kvs => (keyOf k).map fun q => valD kvs q
  | .dT kvs => (tkeyOf k).map fun q => valD kvs q
  | _ => none
theorem dGet_rp {r : List Addr} {W : Addr → Prop} {H : Hp} {d k : D} {v y : V} {o : Option D} (hd : PRp C r W H d v) (hk : PRp C r W H k y) (e : dGet d k = some o) :
    ∃ a, v = .ref a ∧ ((o = none ∧ DGet H a y none) ∨ ∃ z w, o = some z ∧ Rp C r W H z w ∧ DGet H a y (some w)) := by
  unfold dGet at e
  split at e
  · rename_i kvs
    rw [Option.map_eq_some_iff] at e
    obtain ⟨q, e1, rfl⟩ := e
    obtain ⟨a, xs, rfl, h1, h2, _, _, h3⟩ := hd.isDK
    refine ⟨a, rfl, ?_⟩
    rw [keyOf_rp hk e1]
    rcases valD_rp q h2 h3 with ⟨i1, i2⟩ | ⟨z, w, i1, i2, i3⟩
    · exact .inl ⟨i1, by rw [← i2]; exact dgetK h1⟩
    · exact .inr ⟨z, w, i1, i3, by rw [← i2]; exact dgetK h1⟩
  · rename_i kvs
    rw [Option.map_eq_some_iff] at e
    obtain ⟨q, e1, rfl⟩ := e
    obtain ⟨a, xs, rfl, h1, h2, _, _, h3⟩ := hd.isDT
    refine ⟨a, rfl, ?_⟩
    unfold tkeyOf at e1
    split at e1
    · obtain ⟨b, us, rfl, g1, _, g2⟩ := hk.isTup
      have ek := keysOf_rp g2 e1
      subst ek
      rcases valD_rp q h2 h3 with ⟨i1, i2⟩ | ⟨z, w, i1, i2, i3⟩
      · exact .inl ⟨i1, by rw [← i2]; exact dgetT h1 g1⟩
      · exact .inr ⟨z, w, i1, i3, by rw [← i2]; exact dgetT h1 g1⟩
    · cases e1
  · cases e

/-! ### in -/
def D.flat : D → Bool
  | .non => true | .bl _ => true | .int _ => true | .str _ => true | _ => false
def D.eqF : D → D → Bool
  | .non, .non => true
  | .bl a, .bl b => a == b
  | .bl a, .int b => (if a then 1 else 0) == b
  | .int a, .bl b => a == (if b then 1 else 0)
  | .int a, .int b => a == b
  | .str a, .str b => a == b
  | _, _ => false
theorem flat_rp {r : List Addr} {W : Addr → Prop} {H : Hp} {d : D} {v : V} (h : Rp C r W H d v) (f : d.flat = true) : flatV v = true := by
  cases h <;> first | rfl | (exact absurd (show false = true from f) Bool.false_ne_true)
theorem eqF_rp {r : List Addr} {W : Addr → Prop} {H : Hp} {d e : D} {v w : V} (h : Rp C r W H d v) (k : Rp C r W H e w) (f : d.flat = true) (f' : e.flat = true) : eqV v w = D.eqF d e := by
  cases h <;> cases k <;> first | rfl | (exact absurd (show false = true from f) Bool.false_ne_true) | (exact absurd (show false = true from f') Bool.false_ne_true)
theorem flats_rp {r : List Addr} {W : Addr → Prop} {H : Hp} : ∀ {ds : List D} {vs : List V}, RpL C r W H ds vs → ds.all D.flat = true → vs.all flatV = true
  | _, _, .nil, _ => rfl
  | _, _, .cons h t, f => by
    rw [List.all_cons, Bool.and_eq_true] at f ⊢
    exact ⟨flat_rp h f.1, flats_rp t f.2⟩
theorem inF_rp {r : List Addr} {W : Addr → Prop} {H : Hp} {e : D} {w : V} (k : Rp C r W H e w) (f' : e.flat = true) : ∀ {ds : List D} {vs : List V}, RpL C r W H ds vs → ds.all D.flat = true → inV w vs = ds.any fun z => D.eqF z e
  | _, _, .nil, _ => rfl
  | _, _, .cons h t, f => by
    rw [List.all_cons, Bool.and_eq_true] at f
    rw [List.any_cons, ← inF_rp k f' t f.2, ← eqF_rp h k f.1 f']
    rfl
/-- x in y -/
def fInB (x y : D) : Option Bool := match y with
  | .lst ds => if x.flat && ds.all D.flat then some (ds.any fun z => D.eqF z x) else match D.py x, D.pys ds with
    | some p, some ps => if SeqAt.shaped p && SeqAt.shaped (.list ps) then some (ps.any fun z => PyData.eqv z p) else none
    | _, _ => none
  | .tup ds => if x.flat && ds.all D.flat then some (ds.any fun z => D.eqF z x) else match D.py x, D.pys ds with
    | some p, some ps => if SeqAt.shaped p && SeqAt.shaped (.tuple ps) then some (ps.any fun z => PyData.eqv z p) else none
    | _, _ => none
  | .dK kvs => (dGet y x).map (·.isSome)
  | .dT kvs => (dGet y x).map (·.isSome)
  | .str t => match x with
    | .str s => some (!(Builtin.Str.occurrences t s 0 t.length 1).isEmpty)
    | _ => none
  | _ => none
def fIn (x y : D) : Option D := (fInB x y).map .bl
def fNotIn (x y : D) : Option D := (fInB x y).map fun k => .bl (!k)
def rInDict (neg : Bool) : R2 := fun y x H Q => ∃ a o, x = .ref a ∧ DGet H a y o ∧ Q (.bl (if neg then !o.isSome else o.isSome)) H
theorem op_inDict {X : Cx} (hu : X.A.units + 1 < cLine) : OpR X (compareOp .In) (rInDict false) := by
  intro pins s σ H x y v u Q I rx ry h
  obtain ⟨a, o, rfl, g, q⟩ := h
  cases ry
  exact d_in hu I g rx fun s' I' => ⟨.bl _, H, I', rfl, q⟩
theorem op_notInDict {X : Cx} (hu : X.A.units + 1 < cLine) : OpR X (compareOp .NotIn) (rInDict true) := by
  intro pins s σ H x y v u Q I rx ry h
  obtain ⟨a, o, rfl, g, q⟩ := h
  cases ry
  exact d_notIn hu I g rx fun s' I' => ⟨.bl _, H, I', rfl, q⟩
def rInTD (K : PySem.W.Frag) (neg : Bool) : R2 := fun x y H Q => ∃ d ds, Dp K H x d ∧ Dp K H y (.tuple ds) ∧ SeqAt.shaped d = true ∧ SeqAt.shaped (.tuple ds) = true ∧ Q (.bl (if neg then !ds.any fun z => PyData.eqv z d else ds.any fun z => PyData.eqv z d)) H
theorem op_inTD {X : Cx} (hu : X.A.units + 65 < cLine) : OpR X (compareOp .In) (rInTD X.K false) := by
  intro pins s σ H x y v u Q I rx ry h
  obtain ⟨d, ds, hd, he, sd, se, q⟩ := h
  obtain ⟨as, r1⟩ := Dp.reads I d x v hd rx
  obtain ⟨bs, r2⟩ := Dp.reads I (.tuple ds) y u he ry
  exact SeqAt.in_tuple_reads r2 r1 (SeqAt.canLay_of_shaped se) (SeqAt.canLay_of_shaped sd) (room_in_shaped sd hu) ⟨.bl _, H, I, rfl, q⟩
theorem op_notInTD {X : Cx} (hu : X.A.units + 65 < cLine) : OpR X (compareOp .NotIn) (rInTD X.K true) := by
  intro pins s σ H x y v u Q I rx ry h
  obtain ⟨d, ds, hd, he, sd, se, q⟩ := h
  obtain ⟨as, r1⟩ := Dp.reads I d x v hd rx
  obtain ⟨bs, r2⟩ := Dp.reads I (.tuple ds) y u he ry
  exact SeqAt.notIn_tuple_reads r2 r1 (SeqAt.canLay_of_shaped se) (SeqAt.canLay_of_shaped sd) (room_in_shaped sd hu) ⟨.bl _, H, I, rfl, q⟩
def rInA (K : PySem.W.Frag) : R2 := fun x y H Q => (rIn K false x y H Q ∨ (rInD K x y H Q ∨ rInTD K false x y H Q)) ∨ (rInDict false x y H Q ∨ ∃ i j, x = .str i ∧ y = .str j ∧ Q (.bl (!(Builtin.Str.occurrences j i 0 j.length 1).isEmpty)) H)
def rNotInA (K : PySem.W.Frag) : R2 := fun x y H Q => (rIn K true x y H Q ∨ (rNotInD K x y H Q ∨ rInTD K true x y H Q)) ∨ (rInDict true x y H Q ∨ ∃ i j, x = .str i ∧ y = .str j ∧ Q (.bl (!(!(Builtin.Str.occurrences j i 0 j.length 1).isEmpty))) H)
theorem op_inA {X : Cx} (hu : X.A.units + 65 < cLine) : OpR X (compareOp .In) (rInA X.K) := (op_in_seq.or ((op_inD hu).or (op_inTD hu))).or ((op_inDict (by omega)).or op_in_str)
theorem op_notInA {X : Cx} (hu : X.A.units + 65 < cLine) : OpR X (compareOp .NotIn) (rNotInA X.K) := (op_notIn_seq.or ((op_notInD hu).or (op_notInTD hu))).or ((op_notInDict (by omega)).or op_notin_str)
theorem PRp.flat {r : List Addr} {W : Addr → Prop} {H : Hp} {d : D} {v : V} (h : PRp C r W H d v) (f : d.flat = true) : Rp C r W H d v := by
  cases h with
  | of h => exact h
  | lst => exact absurd (show false = true from f) Bool.false_ne_true
  | dK => exact absurd (show false = true from f) Bool.false_ne_true
  | dT => exact absurd (show false = true from f) Bool.false_ne_true
theorem inB_rp {W : Addr → Prop} {r : List Addr} {H : Hp} {da db : D} {x y : V} {k : Bool} (e : fInB da db = some k) (p1 : PRp C r W H da x) (p2 : PRp C r W H db y) (Q : VK) :
    (Q (.bl k) H → rInA C.K x y H Q) ∧ (Q (.bl (!k)) H → rNotInA C.K x y H Q) := by
  unfold fInB at e
  split at e
  · rename_i ds
    obtain ⟨a, xs, rfl, h1, _, q⟩ := p2.isLst
    split at e
    · rename_i f
      rw [Bool.and_eq_true] at f
      cases e
      have e2 := inF_rp (p1.flat f.1) f.1 q f.2
      exact ⟨fun z => .inl (.inl ⟨a, xs, rfl, .inl (.inl (.inl h1)), flat_rp (p1.flat f.1) f.1, flats_rp q f.2, by simpa [e2] using z⟩), fun z => .inl (.inl ⟨a, xs, rfl, .inl (.inl (.inl h1)), flat_rp (p1.flat f.1) f.1, flats_rp q f.2, by simpa [e2] using z⟩)⟩
    · split at e
      · rename_i p ps e1 e2
        split at e
        · rename_i hs
          rw [Bool.and_eq_true] at hs
          cases e
          have dl : Dp C.K H (.ref a) (.list ps) := .lst (.inl (.inl h1)) (q.dp e2)
          exact ⟨fun z => .inl (.inr (.inl ⟨p, ps, p1.dp e1, dl, hs.1, hs.2, z⟩)), fun z => .inl (.inr (.inl ⟨p, ps, p1.dp e1, dl, hs.1, hs.2, z⟩))⟩
        · cases e
      · cases e
  · rename_i ds
    obtain ⟨a, xs, rfl, h1, _, q⟩ := p2.isTup
    split at e
    · rename_i f
      rw [Bool.and_eq_true] at f
      cases e
      have e2 := inF_rp (p1.flat f.1) f.1 q f.2
      exact ⟨fun z => .inl (.inl ⟨a, xs, rfl, .inr (.inl (.inl h1)), flat_rp (p1.flat f.1) f.1, flats_rp q f.2, by simpa [e2] using z⟩), fun z => .inl (.inl ⟨a, xs, rfl, .inr (.inl (.inl h1)), flat_rp (p1.flat f.1) f.1, flats_rp q f.2, by simpa [e2] using z⟩)⟩
    · split at e
      · rename_i p ps e1 e2
        split at e
        · rename_i hs
          rw [Bool.and_eq_true] at hs
          cases e
          have dl : Dp C.K H (.ref a) (.tuple ps) := .tup (.inl (.inl h1)) (q.dp e2)
          exact ⟨fun z => .inl (.inr (.inr ⟨p, ps, p1.dp e1, dl, hs.1, hs.2, z⟩)), fun z => .inl (.inr (.inr ⟨p, ps, p1.dp e1, dl, hs.1, hs.2, z⟩))⟩
        · cases e
      · cases e
  · rw [Option.map_eq_some_iff] at e
    obtain ⟨o, e1, rfl⟩ := e
    obtain ⟨a, rfl, ⟨rfl, g⟩ | ⟨z, w, rfl, _, g⟩⟩ := dGet_rp p2 p1 e1
    · exact ⟨fun q => .inr (.inl ⟨a, none, rfl, g, q⟩), fun q => .inr (.inl ⟨a, none, rfl, g, q⟩)⟩
    · exact ⟨fun q => .inr (.inl ⟨a, _, rfl, g, q⟩), fun q => .inr (.inl ⟨a, _, rfl, g, q⟩)⟩
  · rw [Option.map_eq_some_iff] at e
    obtain ⟨o, e1, rfl⟩ := e
    obtain ⟨a, rfl, ⟨rfl, g⟩ | ⟨z, w, rfl, _, g⟩⟩ := dGet_rp p2 p1 e1
    · exact ⟨fun q => .inr (.inl ⟨a, none, rfl, g, q⟩), fun q => .inr (.inl ⟨a, none, rfl, g, q⟩)⟩
    · exact ⟨fun q => .inr (.inl ⟨a, _, rfl, g, q⟩), fun q => .inr (.inl ⟨a, _, rfl, g, q⟩)⟩
  · split at e
    · cases e
      exact ⟨fun q => .inr (.inr ⟨_, _, p1.isStr, p2.isStr, q⟩), fun q => .inr (.inr ⟨_, _, p1.isStr, p2.isStr, q⟩)⟩
    · cases e
  · cases e
theorem os_in : OpB C fIn (rInA C.K) := fun W g r H da db d x y Q e b p1 p2 => by
  unfold fIn at e
  rw [Option.map_eq_some_iff] at e
  obtain ⟨k, e1, rfl⟩ := e
  exact ⟨k, rfl, (inB_rp e1 p1 p2 Q).1⟩
theorem os_notIn : OpB C fNotIn (rNotInA C.K) := fun W g r H da db d x y Q e b p1 p2 => by
  unfold fNotIn at e
  rw [Option.map_eq_some_iff] at e
  obtain ⟨k, e1, rfl⟩ := e
  exact ⟨!k, rfl, (inB_rp e1 p1 p2 Q).2⟩

/-! ### arithmetic, + of texts, lists, tuples -/
def fInt (c : Int → Int → Bool) (f : Int → Int → Int) (a b : D) : Option D := match a, b with
  | .int i, .int j => if c i j then some (.int (f i j)) else none
  | _, _ => none
theorem os_int {c : Int → Int → Bool} {P : Int → Int → Prop} {f : Int → Int → Int} (h : ∀ i j, c i j = true → P i j) : OpS C (fInt c f) (rI P fun i j => .int (f i j)) := fun Wx W g r σ H da db d x y Q e b p1 p2 z => by
  unfold fInt at e
  split at e
  · split at e
    · rename_i hc
      cases e
      exact ⟨_, _, p1.isInt, p2.isInt, h _ _ hc, z.here b (.int _)⟩
    · cases e
  · cases e
def fSub (a b : D) : Option D := match a, b with
  | .int i, .int j => some (.int (i - j))
  | _, _ => none
theorem os_sub : OpS C fSub (rI0 fun i j => .int (i - j)) := fun Wx W g r σ H da db d x y Q e b p1 p2 z => by
  unfold fSub at e
  split at e
  · cases e
    exact ⟨_, _, p1.isInt, p2.isInt, z.here b (.int _)⟩
  · cases e
def fAdd (a b : D) : Option D := match a, b with
  | .int i, .int j => some (.int (i + j))
  | .str i, .str j => if i.length + j.length ≤ 1000000 then some (.str (i ++ j)) else none
  | .lst xs, .lst ys => if xs.length + ys.length ≤ 1000000 then some (.lst (xs ++ ys)) else none
  | .tup xs, .tup ys => if xs.length + ys.length ≤ 1000000 then some (.tup (xs ++ ys)) else none
  | _, _ => none
def rAddA (K : PySem.W.Frag) : R2 := fun x y H Q => (rI0 (fun i j => .int (i + j)) x y H Q ∨ ∃ i j, x = .str i ∧ y = .str j ∧ i.length + j.length ≤ sizeLine ∧ Q (.str (i ++ j)) H) ∨ (rCat x y H Q ∨ rCatA K x y H Q)
theorem op_addA {X : Cx} : OpR X (binaryOp .Add) (rAddA X.K) := (op_add.or op_add_str).or (op_cat.or op_catA)
theorem os_add : OpS C fAdd (rAddA C.K) := fun Wx W g r σ H da db d x y Q e b p1 p2 z => by
  unfold fAdd at e
  split at e
  · cases e
    exact .inl (.inl ⟨_, _, p1.isInt, p2.isInt, z.here b (.int _)⟩)
  · split at e
    · rename_i hl
      cases e
      exact .inl (.inr ⟨_, _, p1.isStr, p2.isStr, mil hl, z.here b (.str _)⟩)
    · cases e
  · rename_i xs ys
    split at e
    · rename_i hl
      cases e
      obtain ⟨a, us, rfl, h1, _, q1⟩ := p1.isLst
      obtain ⟨a', us', rfl, h2, _, q2⟩ := p2.isLst
      have hz : us.length + us'.length ≤ sizeLine := by rw [← q1.length, ← q2.length]; exact mil hl
      exact .inr (.inl ⟨a, a', us, us', rfl, rfl, h1, h2, hz, fun p hp => z _ _ r (b.upd hp) (Step.upd hp) (Rp.newL b hp (by rw [List.length_append]; exact hz) (q1.append q2))⟩)
    · cases e
  · rename_i xs ys
    split at e
    · rename_i hl
      cases e
      have p1' := p1
      have p2' := p2
      obtain ⟨a, us, rfl, h1, _, q1⟩ := p1.isTup
      obtain ⟨a', us', rfl, h2, _, q2⟩ := p2.isTup
      have hz : us.length + us'.length ≤ sizeLine := by rw [← q1.length, ← q2.length]; exact mil hl
      refine .inr (.inr ⟨a, a', us, us', rfl, rfl, .inl (.inl h1), .inl (.inl h2), hz, fun e1 => ?_, fun _ e2 => ?_, fun _ _ p hp => z _ _ r (b.upd hp) (Step.upd hp) (Rp.newT b hp (by rw [List.length_append]; exact hz) (q1.append q2))⟩)
      · subst e1
        cases q1
        cases p2' with | of p2' => exact z.here b p2'
      · subst e2
        cases q2
        rw [List.append_nil] at z
        cases p1' with | of p1' => exact z.here b p1'
    · cases e
  · cases e
/-- * of ints, of a list by a small number, of a tuple -/
def fMul (a b : D) : Option D := match a, b with
  | .int i, .int j => if (decide (-(2 ^ 64) < i) && decide (i < 2 ^ 64)) || (decide (-(2 ^ 64) < j) && decide (j < 2 ^ 64)) then some (.int (i * j)) else none
  | .lst xs, .int k => if 0 ≤ k ∧ k ≤ 1000 ∧ xs.length ≤ 1000 then some (.lst (List.replicate k.toNat xs).flatten) else none
  | .tup xs, .int k => if xs ≠ [] ∧ 2 ≤ k ∧ k ≤ 1000 ∧ xs.length ≤ 1000 then some (.tup (List.replicate k.toNat xs).flatten) else none
  | _, _ => none
def rMulA (K : PySem.W.Frag) : R2 := fun x y H Q => rI CMul (fun i j => .int (i * j)) x y H Q ∨ (rRep x y H Q ∨ rRepT K x y H Q)
theorem op_mulA {X : Cx} : OpR X (binaryOp .Mult) (rMulA X.K) := op_mul.or (op_rep.or op_repT)
theorem RpL.rep {r : List Addr} {W : Addr → Prop} {H : Hp} {ds : List D} {vs : List V} (h : RpL C r W H ds vs) : ∀ k : Nat, RpL C r W H (List.replicate k ds).flatten (List.replicate k vs).flatten
  | 0 => .nil
  | k + 1 => by rw [List.replicate_succ, List.replicate_succ, List.flatten_cons, List.flatten_cons]; exact h.append (h.rep k)
theorem rep_len {α : Type} (xs : List α) (k : Nat) : (List.replicate k xs).flatten.length = k * xs.length := by simp [List.length_flatten]
theorem os_mul : OpS C fMul (rMulA C.K) := fun Wx W g r σ H da db d x y Q e b p1 p2 z => by
  unfold fMul at e
  split at e
  · split at e
    · rename_i hc
      cases e
      refine .inl ⟨_, _, p1.isInt, p2.isInt, ?_, z.here b (.int _)⟩
      simp only [Bool.or_eq_true, Bool.and_eq_true, decide_eq_true_eq] at hc
      exact hc
    · cases e
  · rename_i xs k
    split at e
    · rename_i hc
      cases e
      obtain ⟨a, us, rfl, h1, _, q1⟩ := p1.isLst
      have hl : us.length ≤ 1000 := by rw [← q1.length]; exact hc.2.2
      have hm : k.toNat * us.length ≤ 1000 * 1000 := Nat.mul_le_mul (by omega) hl
      exact .inr (.inl ⟨a, k, us, rfl, p2.isInt, h1, by omega, by omega, by rw [Nat.mul_comm]; exact mil (by omega), fun p hp => z _ _ r (b.upd hp) (Step.upd hp) (Rp.newL b hp (by rw [rep_len]; exact mil (by omega)) (q1.rep _))⟩)
    · cases e
  · rename_i xs k
    split at e
    · rename_i hc
      cases e
      obtain ⟨a, us, rfl, h1, _, q1⟩ := p1.isTup
      have hl : us.length ≤ 1000 := by rw [← q1.length]; exact hc.2.2.2
      have hm : k.toNat * us.length ≤ 1000 * 1000 := Nat.mul_le_mul (by omega) hl
      refine .inr (.inr ⟨a, k, us, rfl, p2.isInt, .inl (.inl h1), fun z => hc.1 ?_, hc.2.1, hc.2.2.1, hl, fun p hp => z _ _ r (b.upd hp) (Step.upd hp) (Rp.newT b hp (by rw [rep_len]; exact mil (by omega)) (q1.rep _))⟩)
      subst z
      cases q1
      rfl
    · cases e
  · cases e
/-- // by a small positive number, % by a positive one -/
abbrev fDiv := fInt (fun _ j => decide (0 < j) && decide (j < 1073741824)) (fun i j => i / j)
abbrev fMod := fInt (fun _ j => decide (0 < j)) (fun i j => i % j)
abbrev fPow := fInt (fun i j => decide (0 ≤ j) && decide (j ≤ 1000) && decide (i.natAbs < 2 ^ 64)) (fun i j => i ^ j.toNat)
theorem os_div : OpS C fDiv (rI CDiv fun i j => .int (i / j)) := os_int fun i j h => by
  simp only [Bool.and_eq_true, decide_eq_true_eq] at h
  exact h
theorem os_mod : OpS C fMod (rI (fun _ j => 0 < j) fun i j => .int (i % j)) := os_int fun i j h => by
  simp only [decide_eq_true_eq] at h
  exact h
theorem os_pow : OpS C fPow (rI CPow fun i j => .int (i ^ j.toNat)) := os_int fun i j h => by
  simp only [Bool.and_eq_true, decide_eq_true_eq] at h
  exact ⟨h.1.1, by omega, h.2⟩

/-! ### items -/
def fIx (a b : D) : Option D := match a, b with
  | .lst xs, .int i => atI xs i
  | .tup xs, .int i => atI xs i
  | .str z, .int i => if z.length ≤ 1000000 then (atI z.cps.toList i).map fun c => .str ⟨#[c]⟩ else none
  | .dK _, k => match dGet a k with
    | some (some d) => some d
    | _ => none
  | .dT _, k => match dGet a k with
    | some (some d) => some d
    | _ => none
  | _, _ => none
theorem atI_rp {r : List Addr} {W : Addr → Prop} {H : Hp} {ds : List D} {vs : List V} {i : Int} {d : D} (q : RpL C r W H ds vs) (h : atI ds i = some d) : ∃ v, atI vs i = some v ∧ Rp C r W H d v := by
  unfold atI at h ⊢
  rw [← q.length]
  cases e : ixN ds.length i with
  | none => rw [e] at h; cases h
  | some j =>
    rw [e] at h
    obtain ⟨v, h1, h2⟩ := q.get (show ds[j]? = some d from h)
    exact ⟨v, h1, h2⟩
def rIxD : R2 := fun x y H Q => ∃ a v, x = .ref a ∧ DGet H a y (some v) ∧ Q v H
theorem ix_dict {X : Cx} (hu : X.A.units + 1 < cLine) : IxR X rIxD := by
  intro value slice pins s σ H x y v u Q I rx ry h hs
  obtain ⟨a, w, rfl, g, q⟩ := h
  obtain rfl : v = Value.ref a := rx
  have hT := dict_typeIs I g
  have h₂ : wpAny (model X.prog X.w) X.A (getItem (.ref a) u) (EP X pins σ Q) X.xe s := d_getItem hu I g ry fun w' s' I' r => ⟨w, H, I', r, q⟩
  unfold subscriptTail
  refine wpAny_bind ?_
  rw [getitemInPython_of_ne hT.not_modules]
  refine wpAny_bind (wpAny_specialOf hT PySem.F.slot_dict_getitem.lookup ?_)
  have fin : wpAny (model X.prog X.w) X.A (subscripted slice false (.ref a) u) (fun r s₃ => wpAny (model X.prog X.w) X.A (letTemporaryGo value (.ref a) r >>= fun _ => pure r) (EP X pins σ Q) X.xe s₃) X.xe s := by
    rw [hs]
    exact wpAny_operating (wpAny_mono h₂ (fun r s₃ h₃ => wpAny_bind (wpAny_letTemporaryGo (wpAny_pure h₃))) fun _ _ x => x)
  first
    | exact wpAny_pure (wpAny_bind fin)
    | exact wpAny_bind (wpAny_pure (wpAny_bind fin))
    | exact wpAny_bind fin
def rIxA (K : PySem.W.Frag) : R2 := fun x y H Q => rIx K x y H Q ∨ rIxD x y H Q
theorem ix_any {X : Cx} (hu : X.A.units + 1 < cLine) : IxR X (rIxA X.K) := ix_seq.or (ix_dict hu)
theorem os_ix : OpS C fIx (rIxA C.K) := fun Wx W g r σ H da db d x y Q e b p1 p2 z => by
  unfold fIx at e
  split at e
  · obtain ⟨a, us, rfl, h1, _, q1⟩ := p1.isLst
    obtain ⟨v, e1, e2⟩ := atI_rp q1 e
    exact .inl (.inl ⟨a, us, _, v, rfl, p2.isInt, .inl (.inl h1), e1, z.here b e2⟩)
  · obtain ⟨a, us, rfl, h1, _, q1⟩ := p1.isTup
    obtain ⟨v, e1, e2⟩ := atI_rp q1 e
    exact .inl (.inr (.inl ⟨a, us, _, v, rfl, p2.isInt, .inl (.inl h1), e1, z.here b e2⟩))
  · split at e
    · rename_i hl
      rw [Option.map_eq_some_iff] at e
      obtain ⟨c, e1, rfl⟩ := e
      exact .inl (.inr (.inr ⟨_, _, c, p1.isStr, p2.isInt, mil hl, e1, z.here b (.str _)⟩))
    · cases e
  · split at e
    · rename_i e1
      cases e
      obtain ⟨a, rfl, ⟨h, _⟩ | ⟨y', w, h, h2, g⟩⟩ := dGet_rp p1 p2 e1
      · cases h
      · cases h
        exact .inr ⟨a, w, rfl, g, z.here b h2⟩
    · cases e
  · split at e
    · rename_i e1
      cases e
      obtain ⟨a, rfl, ⟨h, _⟩ | ⟨y', w, h, h2, g⟩⟩ := dGet_rp p1 p2 e1
      · cases h
      · cases h
        exact .inr ⟨a, w, rfl, g, z.here b h2⟩
    · cases e
  · cases e
end
section
variable {X : Cx} {C : Cst} {Wx : WX}
theorem se_ix {a b : Expr} {pos : Pos} {ma mb : ME} (hK : C.K = X.K) (hu : X.A.units + 1 < cLine) (ha : PE X a (RP C Wx ma)) (hb : PE X b (RP C Wx mb)) (hs : PlainIx b) : PE X (.Subscript a b pos) (RE C Wx (mBin fIx ma mb)) :=
  PEm (pe_ix (ix_any hu) ha hb hs) fun _ _ _ h => re_bin (by rw [← hK]; exact os_ix) h

/-! ### slices -/
abbrev MO := Ev → G → R (Option Int)
def RO (C : Cst) (Wx : WX) (m : MO) : TO := fun σ H Q => ∃ W env oas g r, Sm C W env oas g r σ H ∧ Post C Wx W r σ H (fun _ _ b c => c = b) Q (m env g)
def mNo : MO := fun _ g => .ok none g
def mPart (m : ME) : MO := fun env g => (m env g).bind fun d g1 => match d with
  | .int i => .ok (some i) g1
  | _ => .stuck
theorem POm {e : Option Expr} {t t' : TO} (h : PO X e t) (k : ∀ σ H Q, t' σ H Q → t σ H Q) : PO X e t' := ⟨fun pins s σ H Q I q => h.run pins s σ H Q I (k σ H Q q)⟩
theorem so_none : PO X none (RO C Wx mNo) := POm po_none fun σ H Q h => by
  obtain ⟨W, env, oas, g, r, S, P⟩ := h
  exact Post.here (d := none) (g := g) P S.bs rfl
theorem so_some {e : Expr} {m : ME} (h : PE X e (RE C Wx m)) : PO X (some e) (RO C Wx (mPart m)) := POm (po_some h) fun σ H Q h => by
  obtain ⟨W, env, oas, g, r, S, P⟩ := h
  refine ⟨W, env, oas, g, r, S, Post.mono (Post.split P) fun v H1 ⟨d, g1, r1, b1, s1, p1, q1⟩ => ?_⟩
  cases d with
  | int i => exact ⟨i, p1.isInt, Post.here (d := some i) (g := g1) q1 b1 rfl⟩
  | _ => exact q1.elim
def cutD (xs : List D) (lo hi : Option Int) : List D := (xs.drop (HT.sIx xs.length 0 lo)).take (HT.sIx xs.length xs.length hi - HT.sIx xs.length 0 lo)
def fSl (d : D) (lo hi : Option Int) : Option D := match d with
  | .lst xs => some (.lst (cutD xs lo hi))
  | .tup xs => some (.tup (cutD xs lo hi))
  | _ => none
def mSl (m : ME) (ml mh : MO) : ME := fun env g => (m env g).bind fun d g1 => (ml env g1).bind fun lo g2 => (mh env g2).bind fun hi g3 => liftO (fSl d lo hi) g3
theorem cutD_rp {r : List Addr} {W : Addr → Prop} {H : Hp} {ds : List D} {vs : List V} (q : RpL C r W H ds vs) (lo hi : Option Int) : RpL C r W H (cutD ds lo hi) (cutV vs lo hi) := by
  unfold cutD cutV
  rw [q.length]
  exact (q.drop _).take _
theorem cutD_whole {xs : List D} {l u : Option Int} (w : HT.sIx xs.length 0 l = 0 ∧ HT.sIx xs.length xs.length u = xs.length) : cutD xs l u = xs := by
  unfold cutD
  rw [w.1, w.2]
  exact (List.take_of_length_le (by rw [List.drop_zero]; exact Nat.le_refl _)).trans List.drop_zero
def rSlX (K : PySem.W.Frag) : V → Option Int → Option Int → Hp → VK → Prop := fun x lo hi H Q => rSlL K x lo hi H Q ∨ rSlA K x lo hi H Q
theorem sl_any : L2.SlR X (rSlX X.K) := sl_list.or sl_tupA
theorem se_slice {e : Expr} {lo hi : Option Expr} {p2 pos : Pos} {m : ME} {ml mh : MO} (hK : C.K = X.K) (he : PE X e (RP C Wx m)) (hl : PO X lo (RO C Wx ml)) (hh : PO X hi (RO C Wx mh)) : PE X (.Subscript e (.Slice lo hi none p2) pos) (RE C Wx (mSl m ml mh)) :=
  PEm (pe_slice sl_any he hl hh) fun σ H Q h => by
    obtain ⟨W, env, oas, g, r, S, P⟩ := h
    refine ⟨W, env, oas, g, r, S, Post.mono (Post.split P) fun v H1 ⟨d, g1, r1, b1, s1, p1, q1⟩ => ⟨W, env, oas, g1, r1, S.step s1 b1, Post.mono (Post.split q1) fun l H2 ⟨l', g2, r2, b2, s2, e2, q2⟩ => ⟨W, env, oas, g2, r2, (S.step s1 b1).step s2 b2, Post.mono (Post.split q2) fun u H3 ⟨u', g3, r3, b3, s3, e3, q3⟩ => ?_⟩⟩⟩
    subst e2 e3
    obtain ⟨z, hz, q4⟩ := liftO_some q3
    have p3 := (p1.step s2).step s3
    rw [← hK]
    unfold fSl at hz
    split at hz
    · cases hz
      obtain ⟨a, us, rfl, h1, hz1, k1⟩ := p3.isLst
      exact .inl ⟨a, us, rfl, .inl (.inl h1), fun p hp => q4 _ _ r3 (b3.upd hp) (Step.upd hp) (Rp.newL b3 hp (Nat.le_trans (cutV_length _ _ _) hz1) (cutD_rp k1 _ _))⟩
    · cases hz
      have p4 := p3
      obtain ⟨a, us, rfl, h1, hz1, k1⟩ := p3.isTup
      refine .inr ⟨a, us, rfl, .inl (.inl h1), fun w => ?_, fun _ p hp => q4 _ _ r3 (b3.upd hp) (Step.upd hp) (Rp.newT b3 hp (Nat.le_trans (cutV_length _ _ _) hz1) (cutD_rp k1 _ _))⟩
      cases p4 with
      | of p4 =>
        refine q4.here b3 ?_
        rw [cutD_whole (by rw [k1.length]; exact w)]
        exact p4
    · cases hz
end
end GT

/-! GtD: calls of built-ins, calls of defs. -/
namespace GT
open PySem PySem.Spec PyProof.Rows L2

/-! ### arguments that are looked at -/
inductive PRpL (C : Cst) (r : List Addr) (W : Addr → Prop) (H : Hp) : List D → List V → Prop
  | nil : PRpL C r W H [] []
  | cons {d : D} {v : V} {ds : List D} {vs : List V} (h : PRp C r W H d v) (t : PRpL C r W H ds vs) : PRpL C r W H (d :: ds) (v :: vs)
abbrev RlPA (C : Cst) (W : Addr → Prop) : List Addr → Hp → List D → List V → Prop := fun r H d v => PRpL C r W H d v
def RPA (C : Cst) (Wx : WX) (m : MA) : TA := fun σ H Q => ∃ W env oas g r, Sm C W env oas g r σ H ∧ Post C Wx W r σ H (RlPA C W) Q (m env g)
section
variable {X : Cx} {C : Cst} {Wx : WX}
theorem pa_nilP : PA X [] (RPA C Wx mNil) := PAm pa_nil fun σ H Q h => by
  obtain ⟨W, env, oas, g, r, S, P⟩ := h
  exact Post.here (d := []) (g := g) P S.bs .nil
theorem pa_consP {e : Expr} {es : List Expr} {m : ME} {ms : MA} (ha : PE X e (RP C Wx m)) (hr : PA X es (RPA C Wx ms)) (hs : starEach (e :: es) X.env = (false, eval e X.env) :: starEach es X.env := by rfl) : PA X (e :: es) (RPA C Wx (mCons m ms)) :=
  PAm (pa_cons ha hr hs) fun σ H Q h => by
    obtain ⟨W, env, oas, g, r, S, P⟩ := h
    refine ⟨W, env, oas, g, r, S, Post.mono (Post.split P) fun v H1 ⟨d, g1, r1, b1, s1, p1, q1⟩ => ⟨W, env, oas, g1, r1, S.step s1 b1, Post.mono (Post.split q1) fun w H2 ⟨e, g2, r2, b2, s2, p2, q2⟩ => ?_⟩⟩
    exact Post.here (d := d :: e) (g := g2) q2 b2 (.cons (p1.step s2) p2)
end
theorem PRpL.one {C : Cst} {r : List Addr} {W : Addr → Prop} {H : Hp} {d : D} {xs : List V} (h : PRpL C r W H [d] xs) : ∃ v, xs = [v] ∧ PRp C r W H d v := by
  cases h with | cons h t => cases t; exact ⟨_, rfl, h⟩
theorem PRpL.two {C : Cst} {r : List Addr} {W : Addr → Prop} {H : Hp} {d e : D} {xs : List V} (h : PRpL C r W H [d, e] xs) : ∃ v w, xs = [v, w] ∧ PRp C r W H d v ∧ PRp C r W H e w := by
  cases h with | cons h t => cases t with | cons h' t' => cases t'; exact ⟨_, _, rfl, h, h'⟩

/-! ### built-ins -/
def mBlt (f : List D → Option D) (ms : MA) : ME := fun env g => (ms env g).bind fun ds g1 => liftO (f ds) g1
def CallS (C : Cst) (f : List D → Option D) (r2 : List V → Hp → VK → Prop) : Prop := ∀ (Wx : WX) (W : Addr → Prop) (g : G) (r : List Addr) (σ : L2.St) (H : Hp) (ds : List D) (d : D) (xs : List V) (Q : VK), f ds = some d → Bs C W g r H → PRpL C r W H ds xs → Post C Wx W r σ H (RlE C W) Q (.ok d g) → r2 xs H Q
section
variable {X : Cx} {C : Cst} {Wx : WX}
theorem re_blt {f : List D → Option D} {r2 : List V → Hp → VK → Prop} {ms : MA} (hs : CallS C f r2) {σ : L2.St} {H : Hp} {Q : VK} (h : RE C Wx (mBlt f ms) σ H Q) : tCB r2 (RPA C Wx ms) σ H Q := by
  obtain ⟨W, env, oas, g, r, S, P⟩ := h
  refine ⟨W, env, oas, g, r, S, Post.mono (Post.split P) fun v H1 ⟨d, g1, r1, b1, s1, p1, q1⟩ => ?_⟩
  obtain ⟨z, hz, q3⟩ := liftO_some q1
  exact hs Wx W g1 r1 σ H1 d z v Q hz b1 p1 q3
theorem se_blt {x : Str} {id : String} {e : Expr} {es : List Expr} {p pos : Pos} {f : List D → Option D} {r2 : List V → Hp → VK → Prop} {ms : MA} (hc : CallR X (.builtin id) r2) (hs : CallS C f r2) (hg : Gl X x) (hm : X.mg x = none) (hv : bootBuiltins x = some (.builtin id)) (ha : PA X (e :: es) (RPA C Wx ms)) (hn : x ≠ "__name__" := by decide) (hdb : (x == ("__debug__" : Str)) = false := by decide)
    (he : starEach (e :: es) X.env = (false, eval e X.env) :: starEach es X.env := by rfl) (hpl : (backTo pos (starEach es X.env)).any (·.1) = false := by rfl) : PE X (.Call (.Name x p) (e :: es) [] pos) (RE C Wx (mBlt f ms)) :=
  PEm (pe_callB hc hg hm hv ha hn hdb he hpl) fun _ _ _ h => re_blt hs h
theorem se_ty {x : Str} {T : String} {e : Expr} {es : List Expr} {p pos : Pos} {f : List D → Option D} {r2 : List V → Hp → VK → Prop} {ms : MA} (hc : CallR X (.type T) r2) (hs : CallS C f r2) (hg : Gl X x) (hm : X.mg x = none) (hv : bootBuiltins x = some (.type T)) (ha : PA X (e :: es) (RPA C Wx ms)) (hn : x ≠ "__name__" := by decide) (hdb : (x == ("__debug__" : Str)) = false := by decide)
    (he : starEach (e :: es) X.env = (false, eval e X.env) :: starEach es X.env := by rfl) (hpl : (backTo pos (starEach es X.env)).any (·.1) = false := by rfl) : PE X (.Call (.Name x p) (e :: es) [] pos) (RE C Wx (mBlt f ms)) :=
  PEm (pe_callTy hc hg hm hv ha hn hdb he hpl) fun _ _ _ h => re_blt hs h
end

/-- len -/
def fLen : List D → Option D
  | [.lst ds] => some (.int ds.length)
  | [.tup ds] => some (.int ds.length)
  | [.scr ns] => some (.int ns.length)
  | [.str z] => if z.length ≤ 1000000 then some (.int z.length) else none
  | _ => none
def rLenA (K : PySem.W.Frag) : List V → Hp → VK → Prop := fun xs H Q => (∃ p ys, xs = [.ref p] ∧ (SqL K H p ys ∨ SqT K H p ys) ∧ Q (.int ys.length) H) ∨ ((∃ z, xs = [.str z] ∧ z.length ≤ sizeLine ∧ Q (.int z.length) H) ∨ ∃ a kvs, xs = [V.ref a] ∧ H a = some (.dK kvs) ∧ Q (.int kvs.length) H)
theorem call_lenA {X : Cx} : CallR X (.builtin "len") (rLenA X.K) := call_len_seq.or (call_len_str.or call_lenD)
section
variable {C : Cst}
theorem cs_len : CallS C fLen (rLenA C.K) := fun Wx W g r σ H ds d xs Q e b p z => by
  unfold fLen at e
  split at e
  · cases e
    obtain ⟨v, rfl, p'⟩ := p.one
    obtain ⟨a, us, rfl, h1, _, q1⟩ := p'.isLst
    exact .inl ⟨a, us, rfl, .inl (.inl (.inl h1)), by rw [← q1.length]; exact z.here b (.int _)⟩
  · cases e
    obtain ⟨v, rfl, p'⟩ := p.one
    obtain ⟨a, us, rfl, h1, _, q1⟩ := p'.isTup
    exact .inl ⟨a, us, rfl, .inr (.inl (.inl h1)), by rw [← q1.length]; exact z.here b (.int _)⟩
  · cases e
    obtain ⟨v, rfl, p'⟩ := p.one
    obtain ⟨a, rfl, h1⟩ := p'.isScr
    exact .inl ⟨a, _, rfl, .inl h1, by rw [List.length_map]; exact z.here b (.int _)⟩
  · split at e
    · rename_i hl
      cases e
      obtain ⟨v, rfl, p'⟩ := p.one
      have := p'.isStr
      subst this
      exact .inr (.inl ⟨_, rfl, mil hl, z.here b (.int _)⟩)
    · cases e
  · cases e

/-- list(x), tuple(x) -/
def kD : Key → D
  | .inl i => .int i
  | .inr x => .str x
def fList : List D → Option D
  | [.lst ds] => some (.lst ds)
  | [.tup ds] => some (.lst ds)
  | [.dT kvs] => if kvs.all (fun kv => decide (kv.1.length ≤ 1000000)) then some (.lst (kvs.map fun kv => .tup (kv.1.map kD))) else none
  | _ => none
def rListA (K : PySem.W.Frag) : List V → Hp → VK → Prop := fun xs H Q => (∃ p ys, xs = [.ref p] ∧ (SqL K H p ys ∨ SqT K H p ys) ∧ ∀ l, H l = none → Q (.ref l) (upd H l (.lst ys))) ∨ (rListD xs H Q ∨
  ∃ d kvs, xs = [V.ref d] ∧ Rd H d (.dT kvs) ∧ ∀ p bs, H p = none → IsKeys H kvs bs → Q (.ref p) (upd H p (.lst (bs.map V.ref))))
theorem call_listA {X : Cx} (hc : X.calm = true) : CallR X (.type "list") (rListA X.K) := call_list_of.or ((call_list_dK hc).or (call_list_dT hc))
theorem kD_rp {r : List Addr} {W : Addr → Prop} {H : Hp} (k : Key) : Rp C r W H (kD k) (kV k) := by
  cases k with
  | inl i => exact .int i
  | inr x => exact .str x
theorem kDs_rp {r : List Addr} {W : Addr → Prop} {H : Hp} : ∀ (ks : List Key), RpL C r W H (ks.map kD) (ks.map kV)
  | [] => .nil
  | k :: ks => .cons (kD_rp k) (kDs_rp ks)
theorem RpL.of_get {r : List Addr} {W : Addr → Prop} {H : Hp} : ∀ {ds : List D} {vs : List V}, ds.length = vs.length → (∀ (i : Nat) (d : D) (v : V), ds[i]? = some d → vs[i]? = some v → Rp C r W H d v) → RpL C r W H ds vs
  | [], [], _, _ => .nil
  | [], _ :: _, e, _ => by simp at e
  | _ :: _, [], e, _ => by simp at e
  | d :: ds, v :: vs, e, h => .cons (h 0 d v rfl rfl) (RpL.of_get (by simpa using e) fun i a b h1 h2 => h (i + 1) a b (by simpa using h1) (by simpa using h2))
theorem keysT_rp {W : Addr → Prop} {g : G} {r : List Addr} {H : Hp} (b : Bs C W g r H) : ∀ {kvs : List (List Key × V)} {bs : List Addr}, kvs.length ≤ sizeLine → (∀ kv ∈ kvs, kv.1.length ≤ sizeLine) → IsKeys H kvs bs → RpL C r W H (kvs.map fun kv => .tup (kv.1.map kD)) (bs.map V.ref)
  | _, _, _, _, .nil => .nil
  | _, _, hz, hk, .cons (b := a) h t => by
    refine .cons ?_ (keysT_rp b (by simp only [List.length_cons] at hz; omega) (fun kv hkv => hk kv (List.mem_cons_of_mem _ hkv)) t)
    refine .tup h (by rw [List.length_map]; exact hk _ (List.mem_cons_self ..)) (fun z => b.objs.nt z _ h) (fun z => b.wnt _ z _ (.tup _) h) (kDs_rp _)
theorem map_fst {κ α β γ : Type} (f : κ → γ) : ∀ {ks : List (κ × α)} {xs : List (κ × β)}, ks.map (·.1) = xs.map (·.1) → (ks.map fun kv => f kv.1) = xs.map fun kv => f kv.1 := fun {ks xs} e => by
  have := congrArg (List.map f) e
  rw [List.map_map, List.map_map] at this
  exact this
theorem cs_list : CallS C fList (rListA C.K) := fun Wx W g r σ H ds d xs Q e b p z => by
  unfold fList at e
  split at e
  · cases e
    obtain ⟨v, rfl, p'⟩ := p.one
    obtain ⟨a, us, rfl, h1, hz, q1⟩ := p'.isLst
    exact .inl ⟨a, us, rfl, .inl (.inl (.inl h1)), fun l hl => z _ _ r (b.upd hl) (Step.upd hl) (Rp.newL b hl hz q1)⟩
  · cases e
    obtain ⟨v, rfl, p'⟩ := p.one
    obtain ⟨a, us, rfl, h1, hz, q1⟩ := p'.isTup
    exact .inl ⟨a, us, rfl, .inr (.inl (.inl h1)), fun l hl => z _ _ r (b.upd hl) (Step.upd hl) (Rp.newL b hl hz q1)⟩
  · split at e
    · rename_i hk
      cases e
      obtain ⟨v, rfl, p'⟩ := p.one
      obtain ⟨a, us, rfl, h1, h2, hz, _, q1⟩ := p'.isDT
      have hk2 : ∀ kv ∈ us, kv.1.length ≤ sizeLine := fun kv hkv => by
        have hm : kv.1 ∈ us.map (·.1) := List.mem_map.mpr ⟨kv, hkv, rfl⟩
        rw [← h2] at hm
        obtain ⟨kv', h3, h4⟩ := List.mem_map.mp hm
        have := List.all_eq_true.mp hk kv' h3
        rw [← h4]
        exact mil (of_decide_eq_true this)
      refine .inr (.inr ⟨a, us, rfl, h1, fun l bs hl hb => z _ _ r (b.upd hl) (Step.upd hl) ?_⟩)
      refine Rp.newL b hl (by rw [List.length_map, ← Paired.length hb]; exact hz) ?_
      rw [map_fst (fun k => D.tup (k.map kD)) h2]
      exact keysT_rp b hz hk2 hb
    · cases e
  · cases e
def fTuple : List D → Option D
  | [.lst ds] => some (.tup ds)
  | [.tup ds] => some (.tup ds)
  | _ => none
def rTupleA (K : PySem.W.Frag) : List V → Hp → VK → Prop := fun xs H Q => ∃ p ys, xs = [.ref p] ∧ ((SqL K H p ys ∧ ∀ l, H l = none → Q (.ref l) (upd H l (.tup ys))) ∨ (SqT K H p ys ∧ Q (.ref p) H))
theorem call_tupleA {X : Cx} : CallR X (.type "tuple") (rTupleA X.K) := call_tuple_of
theorem cs_tuple : CallS C fTuple (rTupleA C.K) := fun Wx W g r σ H ds d xs Q e b p z => by
  unfold fTuple at e
  split at e
  · cases e
    obtain ⟨v, rfl, p'⟩ := p.one
    obtain ⟨a, us, rfl, h1, hz, q1⟩ := p'.isLst
    exact ⟨a, us, rfl, .inl ⟨.inl (.inl h1), fun l hl => z _ _ r (b.upd hl) (Step.upd hl) (Rp.newT b hl hz q1)⟩⟩
  · cases e
    obtain ⟨v, rfl, p'⟩ := p.one
    have p2 := p'
    obtain ⟨a, us, rfl, h1, hz, q1⟩ := p'.isTup
    cases p2 with
    | of p2 => exact ⟨a, us, rfl, .inr ⟨.inl (.inl h1), z.here b p2⟩⟩
  · cases e

/-- max, min of two ints; of a list of ints -/
def maxL : List Int → Int
  | [] => 0
  | [x] => x
  | x :: y :: l => max x (maxL (y :: l))
def minL : List Int → Int
  | [] => 0
  | [x] => x
  | x :: y :: l => min x (minL (y :: l))
theorem maxL_eq : ∀ {ns : List Int} {m : Int}, m ∈ ns → (∀ y, y ∈ ns → y ≤ m) → m = maxL ns
  | [], _, h, _ => by cases h
  | [x], m, h, _ => by simp at h; exact h
  | x :: y :: l, m, h, k => by
    rw [maxL]
    rcases List.mem_cons.mp h with e | e
    · have : maxL (y :: l) ≤ m := by
        have hm : ∀ l' : List Int, l' ≠ [] → maxL l' ∈ l' := fun l' hne => by
          induction l' with
          | nil => exact absurd rfl hne
          | cons a t ih =>
            cases t with
            | nil => simp [maxL]
            | cons b t' =>
              rw [maxL]
              have := ih (by simp)
              by_cases hab : a ≤ maxL (b :: t')
              · rw [Int.max_eq_right hab]; exact List.mem_cons_of_mem _ this
              · rw [Int.max_eq_left (by omega)]; exact List.mem_cons_self ..
        exact k _ (List.mem_cons_of_mem _ (hm (y :: l) (by simp)))
      omega
    · have e1 := maxL_eq (ns := y :: l) e fun z hz => k z (List.mem_cons_of_mem _ hz)
      have := k x (List.mem_cons_self ..)
      omega
theorem minL_eq : ∀ {ns : List Int} {m : Int}, m ∈ ns → (∀ y, y ∈ ns → m ≤ y) → m = minL ns
  | [], _, h, _ => by cases h
  | [x], m, h, _ => by simp at h; exact h
  | x :: y :: l, m, h, k => by
    rw [minL]
    rcases List.mem_cons.mp h with e | e
    · have : m ≤ minL (y :: l) := by
        have hm : ∀ l' : List Int, l' ≠ [] → minL l' ∈ l' := fun l' hne => by
          induction l' with
          | nil => exact absurd rfl hne
          | cons a t ih =>
            cases t with
            | nil => simp [minL]
            | cons b t' =>
              rw [minL]
              have := ih (by simp)
              by_cases hab : minL (b :: t') ≤ a
              · rw [Int.min_eq_right hab]; exact List.mem_cons_of_mem _ this
              · rw [Int.min_eq_left (by omega)]; exact List.mem_cons_self ..
        exact k _ (List.mem_cons_of_mem _ (hm (y :: l) (by simp)))
      omega
    · have e1 := minL_eq (ns := y :: l) e fun z hz => k z (List.mem_cons_of_mem _ hz)
      have := k x (List.mem_cons_self ..)
      omega
def fMax : List D → Option D
  | [.int i, .int j] => some (.int (max i j))
  | [.lst ds] => match D.ints ds with
    | some (n :: ns) => some (.int (maxL (n :: ns)))
    | _ => none
  | _ => none
def fMin : List D → Option D
  | [.int i, .int j] => some (.int (min i j))
  | [.lst ds] => match D.ints ds with
    | some (n :: ns) => some (.int (minL (n :: ns)))
    | _ => none
  | _ => none
def rMaxA (K : PySem.W.Frag) : List V → Hp → VK → Prop := fun xs H Q => (∃ i j, xs = [.int i, .int j] ∧ Q (.int (if j > i then j else i)) H) ∨ rMax K xs H Q
def rMinA (K : PySem.W.Frag) : List V → Hp → VK → Prop := fun xs H Q => (∃ i j, xs = [.int i, .int j] ∧ Q (.int (if j < i then j else i)) H) ∨ rMin K xs H Q
theorem call_maxA {X : Cx} (hc : X.calm = true) : CallR X (.builtin "max") (rMaxA X.K) := (call_max2 hc).or (cr_max hc)
theorem call_minA {X : Cx} (hc : X.calm = true) : CallR X (.builtin "min") (rMinA X.K) := (call_min2 hc).or (cr_min hc)
theorem cs_max : CallS C fMax (rMaxA C.K) := fun Wx W g r σ H ds d xs Q e b p z => by
  unfold fMax at e
  split at e
  · cases e
    obtain ⟨v, w, rfl, p1, p2⟩ := p.two
    have e1 := p1.isInt
    have e2 := p2.isInt
    subst e1 e2
    refine .inl ⟨_, _, rfl, ?_⟩
    have : ∀ i j : Int, (if j > i then j else i) = max i j := fun i j => by split <;> omega
    rw [this]
    exact z.here b (.int _)
  · split at e
    · rename_i n ns e1
      cases e
      obtain ⟨v, rfl, p'⟩ := p.one
      obtain ⟨a, us, rfl, h1, hz, q1⟩ := p'.isLst
      have eu := ints_rp q1 e1
      subst eu
      refine .inr ⟨a, n :: ns, rfl, .inl (.inl h1), by simp, fun m h2 h3 => ?_⟩
      rw [maxL_eq h2 h3]
      exact z.here b (.int _)
    · cases e
  · cases e
theorem cs_min : CallS C fMin (rMinA C.K) := fun Wx W g r σ H ds d xs Q e b p z => by
  unfold fMin at e
  split at e
  · cases e
    obtain ⟨v, w, rfl, p1, p2⟩ := p.two
    have e1 := p1.isInt
    have e2 := p2.isInt
    subst e1 e2
    refine .inl ⟨_, _, rfl, ?_⟩
    have : ∀ i j : Int, (if j < i then j else i) = min i j := fun i j => by split <;> omega
    rw [this]
    exact z.here b (.int _)
  · split at e
    · rename_i n ns e1
      cases e
      obtain ⟨v, rfl, p'⟩ := p.one
      obtain ⟨a, us, rfl, h1, hz, q1⟩ := p'.isLst
      have eu := ints_rp q1 e1
      subst eu
      refine .inr ⟨a, n :: ns, rfl, .inl (.inl h1), by simp, fun m h2 h3 => ?_⟩
      rw [minL_eq h2 h3]
      exact z.here b (.int _)
    · cases e
  · cases e
/-- sum, any, all -/
def fSum : List D → Option D
  | [.lst ds] => (D.ints ds).map fun ns => .int ns.sum
  | _ => none
theorem cs_sum : CallS C fSum (rSum C.K) := fun Wx W g r σ H ds d xs Q e b p z => by
  unfold fSum at e
  split at e
  · rw [Option.map_eq_some_iff] at e
    obtain ⟨ns, e1, rfl⟩ := e
    obtain ⟨v, rfl, p'⟩ := p.one
    obtain ⟨a, us, rfl, h1, hz, q1⟩ := p'.isLst
    have eu := ints_rp q1 e1
    subst eu
    exact ⟨a, ns, rfl, .inl (.inl h1), z.here b (.int _)⟩
  · cases e
def D.bls : List D → Option (List Bool)
  | [] => some []
  | .bl i :: ds => (D.bls ds).map (i :: ·)
  | _ :: _ => none
theorem bls_rp {r : List Addr} {W : Addr → Prop} {H : Hp} : ∀ {ds : List D} {vs : List V} {ns : List Bool}, RpL C r W H ds vs → D.bls ds = some ns → vs = ns.map V.bl
  | _, _, _, .nil, e => by simp only [D.bls] at e; cases e; rfl
  | _, _, _, .cons (d := d) (ds := ds) h t, e => by
    cases d with
    | bl i =>
      simp only [D.bls, Option.map_eq_some_iff] at e
      obtain ⟨ns, e1, rfl⟩ := e
      rw [h.isBl, bls_rp t e1]
      rfl
    | _ => simp [D.bls] at e
def fAny : List D → Option D
  | [.lst ds] => (D.bls ds).map fun ns => .bl (ns.any id)
  | _ => none
def fAll : List D → Option D
  | [.lst ds] => (D.bls ds).map fun ns => .bl (ns.all id)
  | _ => none
theorem cs_any : CallS C fAny (rAny C.K) := fun Wx W g r σ H ds d xs Q e b p z => by
  unfold fAny at e
  split at e
  · rw [Option.map_eq_some_iff] at e
    obtain ⟨ns, e1, rfl⟩ := e
    obtain ⟨v, rfl, p'⟩ := p.one
    obtain ⟨a, us, rfl, h1, hz, q1⟩ := p'.isLst
    have eu := bls_rp q1 e1
    subst eu
    exact ⟨a, ns, rfl, .inl (.inl h1), z.here b (.bl _)⟩
  · cases e
theorem cs_all : CallS C fAll (rAll C.K) := fun Wx W g r σ H ds d xs Q e b p z => by
  unfold fAll at e
  split at e
  · rw [Option.map_eq_some_iff] at e
    obtain ⟨ns, e1, rfl⟩ := e
    obtain ⟨v, rfl, p'⟩ := p.one
    obtain ⟨a, us, rfl, h1, hz, q1⟩ := p'.isLst
    have eu := bls_rp q1 e1
    subst eu
    exact ⟨a, ns, rfl, .inl (.inl h1), z.here b (.bl _)⟩
  · cases e
/-- int of an int or of a truth value -/
def fInt1 : List D → Option D
  | [.int i] => some (.int i)
  | [.bl k] => some (.int (if k then 1 else 0))
  | _ => none
theorem cs_int1 : CallS C fInt1 (fun xs H Q => (∃ i, xs = [.int i] ∧ Q (.int i) H) ∨ ∃ k, xs = [.bl k] ∧ Q (.int (if k then 1 else 0)) H) := fun Wx W g r σ H ds d xs Q e b p z => by
  unfold fInt1 at e
  split at e
  · cases e
    obtain ⟨v, rfl, p'⟩ := p.one
    exact .inl ⟨_, by rw [p'.isInt], z.here b (.int _)⟩
  · cases e
    obtain ⟨v, rfl, p'⟩ := p.one
    exact .inr ⟨_, by rw [p'.isBl], z.here b (.int _)⟩
  · cases e

/-! ### isinstance of built-in types -/
def D.ty : D → Option String
  | .non => some "NoneType"
  | .bl _ => some "bool"
  | .int _ => some "int"
  | .str _ => some "str"
  | .lst _ => some "list"
  | .tup _ => some "tuple"
  | .dK _ => some "dict"
  | _ => none
theorem ty_rp {r : List Addr} {W : Addr → Prop} {H : Hp} {d : D} {v : V} {T : String} (h : PRp C r W H d v) (e : d.ty = some T) : TyX C.K H v (.type T) := by
  cases d with
  | non => cases e; rw [h.isNon]; exact .base .non
  | bl b => cases e; rw [h.isBl]; exact .base (.bl b)
  | int b => cases e; rw [h.isInt]; exact .base (.int b)
  | str b => cases e; rw [h.isStr]; exact .base (.str b)
  | lst b => cases e; obtain ⟨a, us, rfl, h1, _⟩ := h.isLst; exact .base (.lst h1)
  | tup b => cases e; obtain ⟨a, us, rfl, h1, _⟩ := h.isTup; exact .base (.tup h1)
  | dK b =>
    cases e
    obtain ⟨a, us, rfl, h1, _⟩ := h.isDK
    rcases h1 with h1 | ⟨o, h1⟩
    · exact .base (.dK h1)
    · exact .fDict h1
  | _ => cases e
end
/-- isinstance(e, T): tab says the answers by the types' names -/
def mIsi (tab : String → Option Bool) (m : ME) : ME := fun env g => (m env g).bind fun d g1 => match d.ty with
  | some t => match tab t with
    | some b => .ok (.bl b) g1
    | none => .stuck
  | none => .stuck
def tabInt : String → Option Bool
  | "int" => some true | "bool" => some true | "NoneType" => some false | "str" => some false | "list" => some false | "tuple" => some false | "dict" => some false | _ => none
def tabBool : String → Option Bool
  | "int" => some false | "bool" => some true | "NoneType" => some false | "str" => some false | "list" => some false | "tuple" => some false | "dict" => some false | _ => none
def tabTuple : String → Option Bool
  | "int" => some false | "bool" => some false | "NoneType" => some false | "str" => some false | "list" => some false | "tuple" => some true | "dict" => some false | _ => none
def tabStr : String → Option Bool
  | "int" => some false | "bool" => some false | "NoneType" => some false | "str" => some true | "list" => some false | "tuple" => some false | "dict" => some false | _ => none
def tabList : String → Option Bool
  | "int" => some false | "bool" => some false | "NoneType" => some false | "str" => some false | "list" => some true | "tuple" => some false | "dict" => some false | _ => none
theorem tab_ok {tab : String → Option Bool} {T : String} (h : ∀ t ∈ ["NoneType", "bool", "int", "str", "list", "tuple", "dict"], tab t = kitB t T) {d : D} {t : String} {b : Bool} (e : d.ty = some t) (e2 : tab t = some b) : kitB t T = some b := by
  rw [← e2]
  refine (h t ?_).symm
  cases d <;> cases e <;> decide
theorem tabInt_ok : ∀ t ∈ ["NoneType", "bool", "int", "str", "list", "tuple", "dict"], tabInt t = kitB t "int" := by decide +kernel
theorem tabBool_ok : ∀ t ∈ ["NoneType", "bool", "int", "str", "list", "tuple", "dict"], tabBool t = kitB t "bool" := by decide +kernel
theorem tabTuple_ok : ∀ t ∈ ["NoneType", "bool", "int", "str", "list", "tuple", "dict"], tabTuple t = kitB t "tuple" := by decide +kernel
theorem tabStr_ok : ∀ t ∈ ["NoneType", "bool", "int", "str", "list", "tuple", "dict"], tabStr t = kitB t "str" := by decide +kernel
theorem tabList_ok : ∀ t ∈ ["NoneType", "bool", "int", "str", "list", "tuple", "dict"], tabList t = kitB t "list" := by decide +kernel
section
variable {X : Cx} {C : Cst} {Wx : WX}
theorem se_isi {e : Expr} {y : Str} {T : String} {p pos p2 : Pos} {m : ME} {tab : String → Option Bool} (hK : C.K = X.K) (ht : ∀ t ∈ ["NoneType", "bool", "int", "str", "list", "tuple", "dict"], tab t = kitB t T) (he : PE X e (RP C Wx m)) (hg : Gl X "isinstance") (hm : X.mg "isinstance" = none) (gy : Gl X y) (my : X.mg y = none) (vy : bootBuiltins y = some (.type T))
    (hi : bootBuiltins "isinstance" = some (.builtin "isinstance") := by decide +kernel) (hn : y ≠ "__name__" := by decide) (hd : (y == ("__debug__" : Str)) = false := by decide)
    (h1 : starEach [e, .Name y p2] X.env = (false, eval e X.env) :: starEach [.Name y p2] X.env := by rfl) (h2 : (backTo pos (starEach [.Name y p2] X.env)).any (·.1) = false := by rfl) : PE X (.Call (.Name "isinstance" p) [e, .Name y p2] [] pos) (RE C Wx (mIsi tab m)) :=
  PEm (pe_callB call_isi hg hm hi (pa_cons he (pa_cons (pe_bltn (v := .ty T) gy my vy rfl hn hd) pa_nil) h1) (by decide) (by decide) h1 h2) fun σ H Q h => by
    obtain ⟨W, env, oas, g, r, S, P⟩ := h
    refine ⟨W, env, oas, g, r, S, Post.mono (Post.split P) fun v H1 ⟨d, g1, r1, b1, s1, p1, q1⟩ => ?_⟩
    dsimp only at q1
    split at q1
    · rename_i t e1
      split at q1
      · rename_i b e2
        rw [← hK]
        exact ⟨v, .ty T, .type t, .type T, b, rfl, .ty T, ty_rp p1 e1, kit_ty (tab_ok ht e1 e2), Post.here (d := D.bl b) (g := g1) q1 b1 (.bl b)⟩
      · exact q1.elim
    · exact q1.elim

/-! ### defs -/
/-- the promise of a def that does what F does -/
def spOf (C : Cst) (n : Nat) (F : List D → G → R D) : Sp := fun vs H Q E => ∃ r W g ds, Bs C W g r H ∧ RpL C r W H ds vs ∧ ds.length = n ∧ Post C (fun cls d _ H' => E cls d H') W r [] H (RlE C W) Q (F ds g)
theorem spOf_len {n : Nat} {F : List D → G → R D} {vs : List V} {H : Hp} {Q : VK} {E : XK} (h : spOf C n F vs H Q E) : vs.length = n := by
  obtain ⟨r, W, g, ds, _, q, e, _⟩ := h
  rw [← q.length, e]
def mFn (n : Nat) (F : List D → G → R D) (ms : MA) : ME := fun env g => (ms env g).bind fun ds g1 => if ds.length = n then F ds g1 else .stuck
theorem Post.wish {Wx Wx' : WX} {W : Addr → Prop} {r : List Addr} {σ σ' : L2.St} {H : Hp} {α β : Type} {Rl : List Addr → Hp → α → β → Prop} {Q : β → Hp → Prop} {m : R α} (h : Post C Wx W r σ H Rl Q m) (k : ∀ c d H', Wx c d σ H' → Wx' c d σ' H') : Post C Wx' W r σ' H Rl Q m := by
  cases m with
  | ok d g => exact h
  | exc c fs g => exact fun cl dx H' r' b s q => k _ _ _ (h cl dx H' r' b s q)
  | stuck => exact h
theorem re_fn {n : Nat} {F : List D → G → R D} {ms : MA} {σ : L2.St} {H : Hp} {Q : VK} (h : RE C Wx (mFn n F ms) σ H Q) : tCallS (spOf C n F) (WE Wx) (RA C Wx ms) σ H Q := by
  obtain ⟨W, env, oas, g, r, S, P⟩ := h
  refine ⟨W, env, oas, g, r, S, Post.mono (Post.split P) fun v H1 ⟨d, g1, r1, b1, s1, p1, q1⟩ => ?_⟩
  dsimp only at q1
  split at q1
  · rename_i hl
    exact ⟨r1, W, g1, d, b1, p1, hl, q1.wish fun _ _ _ z => z⟩
  · exact q1.elim
theorem se_call {k n : Nat} {f : Addr} {fd : FuncData} {ps : List Str} {F : List D → G → R D} {x : Str} {e : Expr} {es : List Expr} {p pos : Pos} {ms : MA} (Fo : FnOk X.prog X.w X.K X.mg X.base (L2.CX X.prog X.w) k f fd ps (spOf C n F)) (hr : Room k X.A) (hm : X.mg x = some (.ref f)) (hk : PySem.W.keepIn X.K (.ref f) = true) (hb : Binds X.K fd ps []) (tk : Takes X Wx)
    (hg : Gl X x) (ha : PA X (e :: es) (RA C Wx ms)) (hdb : (x == ("__debug__" : Str)) = false := by decide) (he : starEach (e :: es) X.env = (false, eval e X.env) :: starEach es X.env := by rfl) (hpl : (backTo pos (starEach es X.env)).any (·.1) = false := by rfl) :
    PE X (.Call (.Name x p) (e :: es) [] pos) (RE C Wx (mFn n F ms)) :=
  PEm (pe_callS (E := WE Wx) Fo hr hg hm hk hb (fun σ => passAt tk σ) ha hdb he hpl) fun _ _ _ h => re_fn h
theorem pe_callS0 {CX : CXT} {k : Nat} {f : Addr} {fd : FuncData} {ps : List Str} {sp : Sp} {E : L2.St → XK} {x : Str} {p pos : Pos} (F : FnOk X.prog X.w X.K X.mg X.base CX k f fd ps sp) (hr : Room k X.A) (hg : Gl X x) (hm : X.mg x = some (.ref f)) (hk : PySem.W.keepIn X.K (.ref f) = true) (hb : Binds X.K fd ps []) (hx : ∀ σ, PassesAt CX X σ (E σ))
    (hdb : (x == ("__debug__" : Str)) = false := by decide) : PE X (.Call (.Name x p) [] [] pos) (tCallS sp E tNil) := by
  refine ⟨fun pins s σ H Q I h => ?_⟩
  refine wpAny_Call_Name_kw (ld_glob I hg hm ?_ hdb)
  exact PySem.W.callWith_K0 I.kIn hk (run_fnS (us := []) F hr hb (hx σ) I .nil h)
theorem se_call0 {k n : Nat} {f : Addr} {fd : FuncData} {ps : List Str} {F : List D → G → R D} {x : Str} {p pos : Pos} (Fo : FnOk X.prog X.w X.K X.mg X.base (L2.CX X.prog X.w) k f fd ps (spOf C n F)) (hr : Room k X.A) (hm : X.mg x = some (.ref f)) (hk : PySem.W.keepIn X.K (.ref f) = true) (hb : Binds X.K fd ps []) (tk : Takes X Wx)
    (hg : Gl X x) (hdb : (x == ("__debug__" : Str)) = false := by decide) : PE X (.Call (.Name x p) [] [] pos) (RE C Wx (mFn n F mNil)) :=
  PEm (pe_callS0 (E := WE Wx) Fo hr hg hm hk hb (fun σ => passAt tk σ) hdb) fun σ H Q h => by
    obtain ⟨W, env, oas, g, r, S, P⟩ := h
    unfold mFn mNil R.bind at P
    dsimp only at P
    split at P
    · rename_i hl
      exact ⟨r, W, g, [], S.bs, .nil, hl, P.wish fun _ _ _ z => z⟩
    · exact P.elim
end
end GT

/-! GtE: targets, loops, comprehensions, statements, defs. -/
namespace GT
open PySem PySem.Spec PyProof.Rows L2

section
variable {C : Cst} {r r' : List Addr} {W W' : Addr → Prop} {H H' : Hp} {g g' : G} {env : Ev} {oas : List (Option Addr)} {σ : L2.St}
theorem mem_set_none {l : List (Option Addr)} {i : Nat} {a : Addr} (h : some a ∈ l.set i none) : some a ∈ l := by
  rcases List.mem_or_eq_of_mem_set h with q | q
  · exact q
  · cases q
theorem get_set_none {l : List (Option Addr)} {i j : Nat} {a : Addr} (h : (l.set i none)[j]? = some (some a)) : l[j]? = some (some a) ∧ j ≠ i := by
  by_cases e : i = j
  · subst e
    by_cases hl : i < l.length
    · rw [List.getElem?_set_self hl] at h; cases h
    · rw [List.getElem?_eq_none (by simpa using hl)] at h; cases h
  · rw [List.getElem?_set_ne e] at h
    exact ⟨h, fun z => e z.symm⟩
theorem Sm.anti (m : Sm C W env oas g r σ H) (hw : ∀ a, W' a → W a) (ho : ∀ a, some a ∈ oas → W' a) : Sm C W' env oas g r σ H :=
  ⟨m.bs.anti hw, m.sl.keep ⟨fun _ _ h => h, fun a q => q.elim .inl fun q => .inr (.inl (hw a q)), fun _ _ h _ _ _ => h, fun _ h => h⟩ fun _ _ => rfl, ho, m.ownd⟩
theorem Sm.setV (m : Sm C W env oas g r σ H) (i : Nat) {d : D} {v : V} (h : Rp C r W H d v) : Sm C W (env.set i (.val d)) (oas.set i none) g r (σ.set i (some v)) H where
  bs := m.bs
  sl := m.sl.set (.val h) i
  own := fun a q => m.own a (mem_set_none q)
  ownd := fun j k a h1 h2 => m.ownd j k a (get_set_none h1).1 (get_set_none h2).1
theorem Sm.setNo (m : Sm C W env oas g r σ H) (i : Nat) (v : Option V) : Sm C W (env.set i .no) (oas.set i none) g r (σ.set i v) H where
  bs := m.bs
  sl := m.sl.set .no i
  own := fun a q => m.own a (mem_set_none q)
  ownd := fun j k a h1 h2 => m.ownd j k a (get_set_none h1).1 (get_set_none h2).1
end

theorem R.bind_assoc {α β γ : Type} (m : R α) (f : α → G → R β) (k : β → G → R γ) : (m.bind f).bind k = m.bind fun a g => (f a g).bind k := by
  cases m <;> rfl
/-! ### targets -/
theorem wipe_set (x : Option V) {i : Nat} : ∀ {vs : List Nat} (σ : L2.St), i ∈ vs → wipe (σ.set i x) vs = wipe σ vs
  | [], _, h => by cases h
  | v :: vs, σ, h => by
    show (wipe (σ.set i x) vs).set v none = (wipe σ vs).set v none
    by_cases hv : i ∈ vs
    · rw [wipe_set x σ hv]
    · have e : i = v := by
        rcases List.mem_cons.mp h with e | e
        · exact e
        · exact absurd e hv
      subst e
      have : ∀ (us : List Nat) (τ : L2.St), i ∉ us → wipe (τ.set i x) us = (wipe τ us).set i x := fun us => by
        induction us with
        | nil => intro τ _; rfl
        | cons u us ih =>
          intro τ hu
          show (wipe (τ.set i x) us).set u none = ((wipe τ us).set u none).set i x
          rw [ih τ fun z => hu (List.mem_cons_of_mem _ z), List.set_comm _ _ (fun z => hu (by rw [z]; exact List.mem_cons_self ..))]
      rw [this vs σ hv, List.set_set]
theorem wipe_wipe (vs : List Nat) (σ : L2.St) : wipe (wipe σ vs) vs = wipe σ vs := by
  have : ∀ (us : List Nat) (τ : L2.St), (∀ u ∈ us, u ∈ vs) → wipe (wipe τ us) vs = wipe τ vs := fun us => by
    induction us with
    | nil => intro τ _; rfl
    | cons u us ih =>
      intro τ hu
      show wipe ((wipe τ us).set u none) vs = wipe τ vs
      rw [wipe_set none _ (hu u (List.mem_cons_self ..)), ih τ fun z hz => hu z (List.mem_cons_of_mem _ hz)]
  exact this vs σ fun _ h => h
abbrev Bnd := D → Ev → Option Ev
def BindS (C : Cst) (is : List Nat) (tg : TG) (bind : Bnd) : Prop := ∀ (W : Addr → Prop) (env : Ev) (oas : List (Option Addr)) (g : G) (r : List Addr) (σ : L2.St) (H : Hp) (d : D) (x : V) (env' : Ev) (Q : L2.St → Hp → Prop), Sm C W env oas g r σ H → Rp C r W H d x → bind d env = some env' →
  (∀ σ' oas', Sm C W env' oas' g r σ' H → (∀ a, some a ∈ oas' → some a ∈ oas) → (∀ vs, (∀ i ∈ is, i ∈ vs) → wipe σ' vs = wipe σ vs) → Q σ' H) → tg x σ H Q
def bName (i : Nat) : Bnd := fun d env => some (env.set i (.val d))
section
variable {C : Cst}
theorem bs_name (i : Nat) : BindS C [i] (gName i) (bName i) := fun W env oas g r σ H d x env' Q m h e k => by
  cases e
  exact k _ _ (m.setV i h) (fun a q => mem_set_none q) fun vs hv => wipe_set _ _ (hv i (List.mem_cons_self ..))
/-- names, one after another -/
def bNames : List Nat → List D → Ev → Option Ev
  | [], [], env => some env
  | i :: is, d :: ds, env => bNames is ds (env.set i (.val d))
  | _, _, _ => none
def gNames : List Nat → TGs
  | [] => gNil
  | i :: is => gCons (gName i) (gNames is)
def bTup (is : List Nat) : Bnd := fun d env => match d with
  | .tup ds => bNames is ds env
  | _ => none
theorem bNames_len : ∀ {is : List Nat} {ds : List D} {env env' : Ev}, bNames is ds env = some env' → ds.length = is.length
  | [], [], _, _, _ => rfl
  | [], _ :: _, _, _, e => by simp [bNames] at e
  | _ :: _, [], _, _, e => by simp [bNames] at e
  | i :: is, d :: ds, env, env', e => by
    simp only [bNames] at e
    simp [bNames_len e]
theorem bs_names {W : Addr → Prop} {g : G} {r : List Addr} {H : Hp} {Q : L2.St → Hp → Prop} : ∀ (is : List Nat) {ds : List D} {xs : List V} {env env' : Ev} {oas : List (Option Addr)} {σ : L2.St}, Sm C W env oas g r σ H → RpL C r W H ds xs → bNames is ds env = some env' →
    (∀ σ' oas', Sm C W env' oas' g r σ' H → (∀ a, some a ∈ oas' → some a ∈ oas) → (∀ vs, (∀ i ∈ is, i ∈ vs) → wipe σ' vs = wipe σ vs) → Q σ' H) → gNames is xs σ H Q
  | [], _, _, _, _, _, _, m, .nil, e, k => by
    simp only [bNames] at e
    cases e
    exact ⟨rfl, k _ _ m (fun _ q => q) fun _ _ => rfl⟩
  | [], _, _, _, _, _, _, _, .cons _ _, e, _ => by simp [bNames] at e
  | _ :: _, _, _, _, _, _, _, _, .nil, e, _ => by simp [bNames] at e
  | i :: is, _, _, _, _, _, _, m, .cons h t, e, k => by
    simp only [bNames] at e
    refine ⟨_, _, rfl, ?_⟩
    refine bs_names is (m.setV i h) t e fun σ' oas' m' o' w' => k σ' oas' m' (fun a q => mem_set_none (o' a q)) fun vs hv => ?_
    rw [w' vs fun j hj => hv j (List.mem_cons_of_mem _ hj)]
    exact wipe_set _ _ (hv i (List.mem_cons_self ..))
theorem bs_tup (is : List Nat) : BindS C is (gTup C.K is.length (gNames is)) (bTup is) := fun W env oas g r σ H d x env' Q m h e k => by
  unfold bTup at e
  split at e
  · rename_i ds
    cases h with
    | tup h hz hr hw q =>
      refine ⟨_, _, rfl, .inl (.inl h), ?_, bs_names is m q e k⟩
      rw [← q.length, bNames_len e]
  · cases e
end
section
variable {X : Cx}
theorem pgs_names_nil : PGs X [] (gNames []) := pgs_nil
theorem pgs_names_cons {i : Nat} {is : List Nat} {x : Str} {pos : Pos} {es : List Expr} (hN : X.N.Nodup) (hi : X.N[i]? = some x) (hx : Loc X.env.scope x) (h2 : PGs X es (gNames is))
    (hs : (assignEach (.Name x pos :: es) X.env).map (·.2) = assign (.Name x pos) X.env :: (assignEach es X.env).map (·.2) := by rfl) (hf : X.fn x = true ∨ X.env.scope.names.lookup x = some .local := by first | exact .inl rfl | exact .inr rfl | assumption) : PGs X (.Name x pos :: es) (gNames (i :: is)) :=
  pgs_cons (pg_name hN hi hx hf) h2 hs
end

/-! ### what is walked -/
abbrev MI := Ev → G → R (List D)
/-- J walks the items ds -/
def ItR (C : Cst) (r : List Addr) (W : Addr → Prop) (H : Hp) (ds : List D) (J : It) : Prop := ds.length ≤ sizeLine ∧ ∃ (Gd : Hp → Prop) (Y : Nat → Hp → V → Hp → Prop), Walk J ds.length Gd Y ∧
  (∀ r' W' H', Kp r r' W W' H H' → Gd H') ∧
  ∀ (i : Nat) r' W' (g' : G) H' x H'', Kp r r' W W' H H' → Bs C W' g' r' H' → i < ds.length → Y i H' x H'' → ∃ d, ds[i]? = some d ∧ Bs C W' g' r' H'' ∧ Step r' r' H' H'' ∧ Rp C r' W' H'' d x
def RI (C : Cst) (Wx : WX) (m : MI) : TI := fun σ H Q => ∃ W env oas g r, Sm C W env oas g r σ H ∧ Post C Wx W r σ H (fun r' H' ds J => ItR C r' W H' ds J) Q (m env g)
theorem PIm {X : Cx} {tg e : Expr} {t t' : TI} (h : PI X tg e t) (k : ∀ σ H Q, t' σ H Q → t σ H Q) : PI X tg e t' := ⟨fun pins s σ H Q I q => h.run pins s σ H Q I (k σ H Q q)⟩
/-- the items of a list, a tuple -/
def mItL (m : ME) : MI := fun env g => (m env g).bind fun d g1 => match d with
  | .lst ds => .ok ds g1
  | .scr ns => .ok (ns.map .int) g1
  | _ => .stuck
def mItT (m : ME) : MI := fun env g => (m env g).bind fun d g1 => match d with
  | .tup ds => .ok ds g1
  | _ => .stuck
section
variable {X : Cx} {C : Cst} {Wx : WX}
theorem RpL.ints {r : List Addr} {W : Addr → Prop} {H : Hp} : ∀ (ns : List Int), RpL C r W H (ns.map D.int) (ns.map V.int)
  | [] => .nil
  | n :: ns => .cons (.int n) (RpL.ints ns)
theorem itr_at {r : List Addr} {W : Addr → Prop} {H : Hp} {ds : List D} {xs : List V} {J : It} {Gd : Hp → Prop} (hz : xs.length ≤ sizeLine) (q : RpL C r W H ds xs) (w : Walk J xs.length Gd (YAt xs)) (st : ∀ r' W' H', Kp r r' W W' H H' → Gd H') : ItR C r W H ds J := by
  refine ⟨by rw [q.length]; exact hz, Gd, YAt xs, by rw [q.length]; exact w, st, fun i r' W' g' H' x H'' k b hi y => ?_⟩
  obtain ⟨e, y⟩ := y
  subst e
  obtain ⟨d, h1, h2⟩ := (q.keep k).getV y
  exact ⟨d, h1, b, Step.refl _ _, h2⟩
theorem si_list {e tg : Expr} {m : ME} (hK : C.K = X.K) (he : PE X e (RE C Wx m)) : PI X tg e (RI C Wx (mItL m)) := PIm (pi_list he) fun σ H Q h => by
  obtain ⟨W, env, oas, g, r, S, P⟩ := h
  refine ⟨W, env, oas, g, r, S, Post.mono (Post.split P) fun v H1 ⟨d, g1, r1, b1, s1, p1, q1⟩ => ?_⟩
  rw [← hK]
  dsimp only at q1
  split at q1
  · cases p1 with
    | lst h hz hr hw q =>
      refine ⟨_, rfl, ⟨_, .inl (.inl h)⟩, Post.here q1 b1 (itr_at hz q walk_list fun r' W' H' k => .inl (.inl (k.ext _ _ h hr hw (fun _ z => by cases z))))⟩
  · rename_i ns
    cases p1 with
    | scr h hz hr hw =>
      refine ⟨_, rfl, ⟨_, .inl h⟩, Post.here q1 b1 (itr_at (by rw [List.length_map]; exact hz) (RpL.ints ns) walk_list fun r' W' H' k => .inl (Rd.keep h (fun _ z => by cases z) fun u e n => k.ext _ u e hr hw n))⟩
    | scrK h1 h2 h3 h4 h5 h6 =>
      have hz : (ns.map V.int).length ≤ sizeLine := by
        have := h6.length
        rw [this, Array.length_toList]; exact h5
      refine ⟨_, rfl, ⟨_, .inr ⟨_, _, _, h1, h2, h3, h4, h5, h6⟩⟩, Post.here q1 b1 (itr_at hz (RpL.ints ns) walk_list fun r' W' H' k => .inr ⟨_, _, _, h1, h2, h3, h4, h5, h6⟩)⟩
  · exact q1.elim
theorem si_tup {e tg : Expr} {m : ME} (hK : C.K = X.K) (he : PE X e (RE C Wx m)) : PI X tg e (RI C Wx (mItT m)) := PIm (pi_tup he) fun σ H Q h => by
  obtain ⟨W, env, oas, g, r, S, P⟩ := h
  refine ⟨W, env, oas, g, r, S, Post.mono (Post.split P) fun v H1 ⟨d, g1, r1, b1, s1, p1, q1⟩ => ?_⟩
  rw [← hK]
  dsimp only at q1
  split at q1
  · cases p1 with
    | tup h hz hr hw q =>
      refine ⟨_, rfl, ⟨_, .inl (.inl h)⟩, Post.here q1 b1 (itr_at hz q walk_tup fun r' W' H' k => .inl (.inl (k.ext _ _ h hr hw (fun _ z => by cases z))))⟩
  · exact q1.elim

/-! ### range -/
def rgD (a b : Int) : List D := (List.range (b - a).toNat).map fun i => .int (a + (i : Nat))
def rgOk (a b : Int) : Bool := decide (-(2 ^ 60) ≤ a) && decide (a ≤ 2 ^ 60) && decide (-(2 ^ 60) ≤ b) && decide (b ≤ 2 ^ 60) && decide ((b - a).toNat ≤ 1000000)
theorem rgOk_ok {a b : Int} (h : rgOk a b = true) : -(2 ^ 60) ≤ a ∧ a ≤ 2 ^ 60 ∧ -(2 ^ 60) ≤ b ∧ b ≤ 2 ^ 60 ∧ (b - a).toNat ≤ 1000000 := by
  simp only [rgOk, Bool.and_eq_true, decide_eq_true_eq] at h
  exact ⟨h.1.1.1.1, h.1.1.1.2, h.1.1.2, h.1.2, h.2⟩
def mRg1 (m : ME) : MI := fun env g => (m env g).bind fun d g1 => match d with
  | .int b => if rgOk 0 b then .ok (rgD 0 b) g1 else .stuck
  | _ => .stuck
def mRg2 (m m2 : ME) : MI := fun env g => (m env g).bind fun d g1 => (m2 env g1).bind fun e g2 => match d, e with
  | .int a, .int b => if rgOk a b then .ok (rgD a b) g2 else .stuck
  | _, _ => .stuck
theorem itr_rg {r : List Addr} {W : Addr → Prop} {H : Hp} {a b : Int} (h : (b - a).toNat ≤ 1000000) : ItR C r W H (rgD a b) (Itr a (b - a).toNat) := by
  have hl : (rgD a b).length = (b - a).toNat := by unfold rgD; rw [List.length_map, List.length_range]
  refine ⟨by rw [hl]; exact mil h, _, _, by rw [hl]; exact walk_range, fun _ _ _ _ => trivial, fun i r' W' g' H' x H'' k b hi y => ?_⟩
  obtain ⟨e, y⟩ := y
  subst e
  rw [hl] at hi
  refine ⟨.int (a + (i : Nat)), ?_, b, Step.refl _ _, by rw [y]; exact .int _⟩
  unfold rgD
  rw [List.getElem?_map, List.getElem?_range hi]
  rfl
theorem si_rg1 {a tg : Expr} {m : ME} {p pos : Pos} (hg : Gl X "range") (hm : X.mg "range" = none) (ha : PE X a (RE C Wx m)) (hs : starEach [a] X.env = [(false, eval a X.env)] := by rfl) : PI X tg (.Call (.Name "range" p) [a] [] pos) (RI C Wx (mRg1 m)) :=
  PIm (pi_range1 hg hm (pa_cons ha pa_nil hs) hs) fun σ H Q h => by
    obtain ⟨W, env, oas, g, r, S, P⟩ := h
    refine ⟨W, env, oas, g, r, S, Post.mono (Post.split P) fun v H1 ⟨d, g1, r1, b1, s1, p1, q1⟩ => ?_⟩
    dsimp only at q1
    split at q1
    · rename_i b
      split at q1
      · rename_i hk
        obtain ⟨h1, h2, h3, h4, h5⟩ := rgOk_ok hk
        refine ⟨b, by rw [p1.isInt], by omega, by omega, Post.here q1 b1 ?_⟩
        have := itr_rg (C := C) (r := r1) (W := W) (H := H1) h5
        rw [Int.sub_zero] at this
        exact this
      · exact q1.elim
    · exact q1.elim
theorem si_rg2 {a b tg : Expr} {m m2 : ME} {p pos : Pos} (hg : Gl X "range") (hm : X.mg "range" = none) (ha : PE X a (RE C Wx m)) (hb : PE X b (RE C Wx m2)) (hs : starEach [a, b] X.env = [(false, eval a X.env), (false, eval b X.env)] := by rfl) (hs2 : starEach [b] X.env = [(false, eval b X.env)] := by rfl) : PI X tg (.Call (.Name "range" p) [a, b] [] pos) (RI C Wx (mRg2 m m2)) :=
  PIm (pi_range2 hg hm (pa_cons ha (pa_cons hb pa_nil hs2) (by rw [hs, hs2])) hs hs2) fun σ H Q h => by
    obtain ⟨W, env, oas, g, r, S, P⟩ := h
    refine ⟨W, env, oas, g, r, S, Post.mono (Post.split P) fun v H1 ⟨d, g1, r1, b1, s1, p1, q1⟩ => ⟨W, env, oas, g1, r1, S.step s1 b1, Post.mono (Post.split q1) fun w H2 ⟨e, g2, r2, b2, s2, p2, q2⟩ => ?_⟩⟩
    dsimp only at q2
    split at q2
    · split at q2
      · rename_i hk
        obtain ⟨h1, h2, h3, h4, h5⟩ := rgOk_ok hk
        exact ⟨_, _, by rw [p1.isInt, p2.isInt], ⟨by omega, by omega, by omega, by omega⟩, Post.here q2 b2 (itr_rg h5)⟩
      · exact q2.elim
    · exact q2.elim
/-- list(range(..)), tuple(range(..)): the items as they are walked -/
def mLstI (m : MI) : ME := fun env g => (m env g).bind fun ds g1 => .ok (.lst ds) g1
def mTupI (m : MI) : ME := fun env g => (m env g).bind fun ds g1 => .ok (.tup ds) g1
theorem rgD_rp {r : List Addr} {W : Addr → Prop} {H : Hp} (a b : Int) : RpL C r W H (rgD a b) (rgV a b) := by
  unfold rgD rgV
  have : ∀ l : List Nat, RpL C r W H (l.map fun i => D.int (a + (i : Nat))) (l.map fun i => V.int (a + (i : Nat))) := fun l => by
    induction l with
    | nil => exact .nil
    | cons x l ih => exact .cons (.int _) ih
  exact this _
theorem se_listRg1 {a : Expr} {m : ME} {p p2 pos pos2 : Pos} (hc : X.calm = true) (hgl : Gl X "list") (hml : X.mg "list" = none) (hg : Gl X "range") (hm : X.mg "range" = none) (ha : PE X a (RE C Wx m)) (na : starEach [a] X.env = (false, eval a X.env) :: starEach [] X.env := by rfl)
    (nb : starEach [.Call (.Name "range" p) [a] [] pos] X.env = (false, eval (.Call (.Name "range" p) [a] [] pos) X.env) :: starEach [] X.env := by rfl) : PE X (.Call (.Name "list" p2) [.Call (.Name "range" p) [a] [] pos] [] pos2) (RE C Wx (mLstI (mRg1 m))) :=
  PEm (pe_listRg hc hgl hml (prg_1 hg hm ha na) nb) fun σ H Q h => by
    obtain ⟨W, env, oas, g, r, S, P⟩ := h
    refine ⟨W, env, oas, g, r, S, Post.mono (Post.split (show Post C Wx W r σ H (RlE C W) Q ((m env g).bind fun d g1 => ((match d with | .int b => if rgOk 0 b then R.ok (rgD 0 b) g1 else R.stuck | _ => R.stuck) : R (List D)).bind fun ds g1 => .ok (.lst ds) g1) from ?_)) fun v H1 ⟨d, g1, r1, b1, s1, p1, q1⟩ => ?_⟩
    · unfold mLstI mRg1 at P
      rw [R.bind_assoc] at P
      exact P
    · cases d with
      | int b =>
        dsimp only at q1
        split at q1
        · rename_i hk
          obtain ⟨h1, h2, h3, h4, h5⟩ := rgOk_ok hk
          refine ⟨b, p1.isInt, ⟨by omega, by omega, by omega, by omega, by omega⟩, fun q hq => q1 _ _ r1 (b1.upd hq) (Step.upd hq) (Rp.newL b1 hq ?_ (rgD_rp 0 b))⟩
          rw [rgV_length]; exact mil h5
        · exact q1.elim
      | _ => exact q1.elim
theorem se_listRg2 {a b : Expr} {m m2 : ME} {p p2 pos pos2 : Pos} (hc : X.calm = true) (hgl : Gl X "list") (hml : X.mg "list" = none) (hg : Gl X "range") (hm : X.mg "range" = none) (ha : PE X a (RE C Wx m)) (hb : PE X b (RE C Wx m2)) (na : starEach [a, b] X.env = (false, eval a X.env) :: starEach [b] X.env := by rfl)
    (nb : starEach [b] X.env = (false, eval b X.env) :: starEach [] X.env := by rfl) (hp : (backTo pos (starEach [b] X.env)).any (·.1) = false := by rfl)
    (nc : starEach [.Call (.Name "range" p) [a, b] [] pos] X.env = (false, eval (.Call (.Name "range" p) [a, b] [] pos) X.env) :: starEach [] X.env := by rfl) : PE X (.Call (.Name "list" p2) [.Call (.Name "range" p) [a, b] [] pos] [] pos2) (RE C Wx (mLstI (mRg2 m m2))) :=
  PEm (pe_listRg hc hgl hml (prg_2 hg hm ha hb na nb hp) nc) fun σ H Q h => by
    obtain ⟨W, env, oas, g, r, S, P⟩ := h
    refine ⟨W, env, oas, g, r, S, Post.mono (Post.split (show Post C Wx W r σ H (RlE C W) Q ((m env g).bind fun d g1 => (m2 env g1).bind fun e g2 => ((match d, e with | .int a, .int b => if rgOk a b then R.ok (rgD a b) g2 else R.stuck | _, _ => R.stuck) : R (List D)).bind fun ds g1 => .ok (.lst ds) g1) from ?_)) fun v H1 ⟨d, g1, r1, b1, s1, p1, q1⟩ => ⟨W, env, oas, g1, r1, S.step s1 b1, Post.mono (Post.split q1) fun w H2 ⟨e, g2, r2, b2, s2, p2, q2⟩ => ?_⟩⟩
    · unfold mLstI mRg2 at P
      rw [R.bind_assoc] at P
      simp only [R.bind_assoc] at P
      exact P
    · dsimp only at q2
      split at q2
      · split at q2
        · rename_i hk
          obtain ⟨h1, h2, h3, h4, h5⟩ := rgOk_ok hk
          refine ⟨_, _, p1.isInt, p2.isInt, ⟨by omega, by omega, by omega, by omega, by omega⟩, fun q hq => q2 _ _ r2 (b2.upd hq) (Step.upd hq) (Rp.newL b2 hq ?_ (rgD_rp _ _))⟩
          rw [rgV_length]; exact mil h5
        · exact q2.elim
      · exact q2.elim
end
/-! ### enumerate of a tuple -/
theorem meets_enumerate_newT (l : Addr) (items : Array Value) :
    Meets (Builtin.«enumerate.__new__» ⟨[.type "enumerate", .ref l], []⟩) (fun _ R s => s.heap.IsTuple l items ∧
      R (.ok (.ret (.ref (s.heap.push { cls := .type "tuple_iterator", data := .fields #[.ref l, .int 0 0] }).objs.size)))
        { s with heap := (s.heap.push { cls := .type "tuple_iterator", data := .fields #[.ref l, .int 0 0] }).push { cls := .type "enumerate", data := .fields #[.none, .bool false, .ref s.heap.objs.size, rawInt 0, .none, .none] } }) :=
  .of_wp fun prog w A R s h => by
    obtain ⟨hp, g, d, tk, os⟩ := s; obtain ⟨h1, h⟩ := h
    have hsub := sub_enumerate
    have q1 : ∀ {A' : Around} {E : Value → Shared → Prop} {Q : Value → Shared → Prop}, Q (.ref hp.objs.size) ⟨hp.push { cls := .type "tuple_iterator", data := .fields #[.ref l, .int 0 0] }, g, d, tk, os⟩ → wpAny (model prog w) A' (pyIter (.ref l)) Q E ⟨hp, g, d, tk, os⟩ :=
      fun q => wpAny_pyIter_tuple (s := ⟨hp, g, d, tk, os⟩) h1 q
    wp_walk using q1
    refine wpAny_stack_any fun st => wpAny_pure ?_
    split
    · rename_i c _ _ _ _ _
      cases (c == Value.type "enumerate")
      · wp_walk using q1
        exact ⟨_, rfl, h⟩
      · wp_walk using q1
        exact ⟨_, rfl, h⟩
    · wp_walk using q1
      exact ⟨_, rfl, h⟩
theorem call_enumerate_tuple {prog : Program} {w : World} {A : Around} {E : Value → Shared → Prop} {s : Shared} {l : Addr} {items : Array Value} {Q : Value → Shared → Prop} (hL : s.heap.IsTuple l items)
    (h : ∀ h', IsEnum h' (s.heap.objs.size + 1) s.heap.objs.size 0 .none → h'.IsTupleIter s.heap.objs.size l 0 → h'.objs.size = s.heap.objs.size + 2 →
      (∀ b o, s.heap.get? b = some o → h'.get? b = some o) → Q (.ref (s.heap.objs.size + 1)) { s with heap := h' }) :
    wpAny (model prog w) A (call (.type "enumerate") [.ref l]) Q E s := by
  refine callType_new F.called_enumerate (by decide) (F.typeCall_enumerate_1 _) (F.newCall_enumerate_1 _) (fun obj => F.args_object_init_2 obj _) F.entry_enumerate_new
    (meets_enumerate_newT l items) ⟨hL, ?_⟩
  have hz : (s.heap.push { cls := .type "tuple_iterator", data := .fields #[.ref l, .int 0 0] }).objs.size = s.heap.objs.size + 1 := Heap.size_push ..
  show _ ∧ _
  rw [hz]
  have he : IsEnum ((s.heap.push { cls := .type "tuple_iterator", data := .fields #[.ref l, .int 0 0] }).push
      { cls := .type "enumerate", data := .fields #[.none, .bool false, .ref s.heap.objs.size, rawInt 0, .none, .none] }) (s.heap.objs.size + 1) s.heap.objs.size 0 .none := by
    have := Heap.get?_push_size (s.heap.push { cls := .type "tuple_iterator", data := .fields #[.ref l, .int 0 0] })
      (o := { cls := .type "enumerate", data := .fields #[.none, .bool false, .ref s.heap.objs.size, rawInt 0, .none, .none] }) rfl
    rw [hz] at this; exact this
  refine ⟨⟨_, he, rfl⟩, h _ he ⟨_, Heap.get?_push_of_some _ (Heap.get?_push_size _ rfl), rfl, rfl⟩ (by rw [Heap.size_push, hz]) fun b o x => Heap.get?_push_of_some _ (Heap.get?_push_of_some _ x)⟩
/-- the tuple at a, each item in a new pair -/
def IteT (a : Addr) : It :=
  ⟨fun i H => ∃ (xs : List V) (x : V), H a = some (.tup xs) ∧ xs[i]? = some x, fun i H v H' => ∃ T x, v = .ref T ∧ H T = none ∧ H' = upd H T (.tup [.int (i : Nat), x]) ∧ ∀ xs, H a = some (.tup xs) → xs[i]? = some x, fun i H => ∃ xs : List V, H a = some (.tup xs) ∧ xs.length = i⟩
theorem turn_enumT {P : Program} {w : World} {K : PySem.W.Frag} {elts : List Expr} {kk : Nat} {tpos : Pos} (a e it : Addr) :
    Turn P w K (.Tuple elts kk tpos) (IteT a) [e, it] e (fun i h => (∃ old, IsEnum h e it ((i : Nat) : Int) old) ∧ h.IsTupleIter it a i ∧ e ≠ it) where
  mem := by simp
  obj := fun i h st b hb => by
    obtain ⟨⟨old, he⟩, ⟨o, ho, hc, hd⟩, _⟩ := st
    have e' : b = e ∨ b = it := by simpa using hb
    rcases e' with z | z
    · rw [z]; exact ⟨_, he, fun v q => nomatch q⟩
    · rw [z]; exact ⟨o, ho, fun v q => by rw [hd] at q; cases q⟩
  keep := fun i h h' st k => let ⟨⟨old, he⟩, hi, hne⟩ := st; ⟨⟨old, k e (by simp) _ he⟩, hi.at fun o q => k it (by simp) o q, hne⟩
  item := by
    intro X hP hw hK hc i pins s σ H E I hf st hg
    subst hP hw hK
    obtain ⟨⟨old, he⟩, hit, hne⟩ := st
    obtain ⟨xs, x, hq, hx⟩ := hg
    obtain ⟨its, rv, p, hz⟩ := I.tuple (.inl (.inl hq))
    obtain ⟨u, hu, ru⟩ := rv.get hx
    have hel : e < s.heap.objs.size := Heap.lt_size he
    have hil : it < s.heap.objs.size := by obtain ⟨_, q, _⟩ := hit; exact Heap.lt_size q
    have nae : e ≠ a := fun z => by have := (hf e (by simp)).1; rw [z, hq] at this; cases this
    have nai : it ≠ a := fun z => by have := (hf it (by simp)).1; rw [z, hq] at this; cases this
    have hlt : i < its.toArray.size := by
      have := (List.getElem?_eq_some_iff.mp hu).1
      simpa using this
    refine wpAny_pyNext_enum_itemD (Draws.tuple (A := X.A.in1) (I.ok.hd hc) it a (Ne.symm nai) its.toArray) he ⟨hit, p⟩ hlt hne (by simp [hne, nae]) fun x' h' tk hx' ho hst' hT hsz hk => ?_
    obtain ⟨hit', _⟩ := hst'
    have ex : x' = u := by
      have : its.toArray[i]? = some x' := hx'
      have h2 : its.toArray[i]? = some u := by simpa using hu
      rw [h2] at this; exact (Option.some.inj this).symm
    subst ex
    refine ⟨_, rfl, wpAny_letOwnedTupleGo_enum (s := { s with heap := h', toks := tk + 1 }) ho fun h'' he' sb => ?_⟩
    have hT2 : h''.get? s.heap.objs.size = some { cls := .type "tuple", data := .seq #[.int i tk, x'] } := (sb.2 _ (Nat.ne_of_gt hel)).trans hT
    have new : ObjOk X.prog X.w (upd H s.heap.objs.size (.tup [.int (i : Nat), x])) h'' s.heap.objs.size (.tup [.int (i : Nat), x]) :=
      ⟨by show 2 ≤ sizeLine; decide, [.int i tk, x'], .cons ⟨_, rfl⟩ (.cons ru .nil), ⟨_, hT2, rfl, _, rfl⟩⟩
    have I1 : Inv X pins σ (upd H s.heap.objs.size (.tup [.int (i : Nat), x])) { s with heap := h'', toks := tk + 1 } :=
      I.turnedNew (ch := [e, it]) (fun b ob hb q => (sb.2 b (fun z => hb (by simp [z]))).trans (hk b ob (fun z => hb (by simp [z])) (fun z => hb (by simp [z])) q)) hf (Nat.le_refl _) new
    refine ⟨.ref s.heap.objs.size, _, I1, rfl, ⟨_, x, rfl, I.hok.fresh (Nat.le_refl _), rfl, fun ys hy => by rw [hq] at hy; cases hy; exact hx⟩, ⟨⟨x', ?_⟩, hit'.at fun o q => (sb.2 it (Ne.symm hne)).trans q, hne⟩, fun b hb => ?_⟩
    · have e1 : ((i + 1 : Nat) : Int) = (i : Int) + 1 := by omega
      rw [e1]; exact he'
    · have hb' : b < s.heap.objs.size := by
        have e' : b = e ∨ b = it := by simpa using hb
        rcases e' with z | z
        · rw [z]; exact hel
        · rw [z]; exact hil
      rw [upd_ne (Nat.ne_of_lt hb')]
      exact (hf b hb).1
  done := by
    intro X hP hw hK hc i pins s σ H E I hf st hg
    subst hP hw hK
    obtain ⟨⟨old, he⟩, hit, hne⟩ := st
    obtain ⟨xs, hq, hx⟩ := hg
    obtain ⟨its, rv, p, hz⟩ := I.tuple (.inl (.inl hq))
    obtain ⟨f0, f1, f2, f3, f4, f5⟩ := hf it (by simp)
    have nai : it ≠ a := fun z => by have := f0; rw [z, hq] at this; cases this
    have hl := rv.length
    have hi : i = its.toArray.size := by rw [List.size_toArray, ← hl, hx]
    subst hi
    exact wpAny_pyNext_enum_endD (Draws.tuple (A := X.A.in1) (I.ok.hd hc) it a (Ne.symm nai) its.toArray) he ⟨hit, p⟩ fun h' eb => ⟨rfl, I.turned (t' := s.toks) (fun b o hb q => eb b o hb q) f0 f1 f3 f4 f5⟩
  self := fun A i s Q E st h => let ⟨⟨_, he⟩, _⟩ := st; wpAny_pyIter_enum he h
def iEnumT (ta : TE) : TI := fun σ H R => ta σ H fun v H1 => ∃ a xs, v = .ref a ∧ H1 a = some (.tup xs) ∧ R (IteT a) H1
theorem pi_enumT {X : Cx} {e : Expr} {ta : TE} {p pos tpos : Pos} {elts : List Expr} {kk : Nat} (hg : Gl X "enumerate") (hm : X.mg "enumerate" = none) (ha : PE X e ta) (hs : starEach [e] X.env = [(false, eval e X.env)] := by rfl) :
    PI X (.Tuple elts kk tpos) (.Call (.Name "enumerate" p) [e] [] pos) (iEnumT ta) := by
  refine ⟨fun pins s σ H R I h => ?_⟩
  refine Call_ (ld_blt I hg hm boot_enumerate (PyProof.Rows.callWith_type1 (thn ((pa_cons ha pa_nil hs).run pos pins s σ H (fun vs H1 => match vs with | [v] => ∃ a xs, v = .ref a ∧ H1 a = some (.tup xs) ∧ R (IteT a) H1 | _ => False) I h) fun us s1 ⟨vs, H1, I1, r1, q1⟩ => ?_) hs rfl))
  cases r1 with
  | nil => exact q1.elim
  | cons r rr =>
    cases rr with
    | cons _ _ => exact q1.elim
    | nil =>
    obtain ⟨a, xs, ex, hq, q⟩ := q1
    subst ex
    cases r
    obtain ⟨its, rv, p', hz⟩ := I1.tuple (.inl (.inl hq))
    refine call_enumerate_tuple (show s1.heap.IsTuple a its.toArray from p') fun h' he hit hsz hk => wpAny_pyIter_enum he ?_
    have I2 : Inv X pins σ H1 { s1 with heap := h' } := I1.kept (t' := s1.toks) hk
    refine ⟨s1.heap.objs.size + 1, [s1.heap.objs.size + 1, s1.heap.objs.size], _, _, H1, rfl, I2, turn_enumT a (s1.heap.objs.size + 1) s1.heap.objs.size, ⟨⟨.none, he⟩, hit, Nat.succ_ne_self _⟩, fun b hb => ?_, q⟩
    have e' : b = s1.heap.objs.size + 1 ∨ b = s1.heap.objs.size := by simpa using hb
    have hle : s1.heap.objs.size ≤ b := by
      rcases e' with z | z
      · rw [z]; exact Nat.le_add_right _ _
      · rw [z]; exact Nat.le_refl _
    exact I1.fpOk hle (I1.hok.fresh hle)
end GT

/-! GtF: enumerate, zip, comprehensions. -/
namespace GT
open PySem PySem.Spec PyProof.Rows L2 RZ
def enumD : Nat → List D → List D
  | _, [] => []
  | n, d :: ds => .tup [.int (n : Int), d] :: enumD (n + 1) ds
theorem enumD_len : ∀ (n : Nat) (ds : List D), (enumD n ds).length = ds.length
  | _, [] => rfl
  | n, d :: ds => by simp [enumD, enumD_len (n + 1) ds]
theorem enumD_get : ∀ (n : Nat) (ds : List D) (i : Nat), (enumD n ds)[i]? = ds[i]?.map fun d => .tup [.int ((n + i : Nat) : Int), d]
  | _, [], i => by simp [enumD]
  | n, d :: ds, 0 => by simp [enumD]
  | n, d :: ds, i + 1 => by
    rw [enumD, List.getElem?_cons_succ, enumD_get (n + 1) ds i, List.getElem?_cons_succ, show n + 1 + i = n + (i + 1) by omega]
def zipD : List D → List D → List D
  | d :: ds, e :: es => .tup [d, e] :: zipD ds es
  | _, _ => []
theorem zipD_len : ∀ (ds es : List D), (zipD ds es).length = min ds.length es.length
  | [], _ => by simp [zipD]
  | _ :: _, [] => by simp [zipD]
  | d :: ds, e :: es => by simp [zipD, zipD_len ds es]
theorem zipD_get : ∀ (ds es : List D) (i : Nat) (d e : D), ds[i]? = some d → es[i]? = some e → (zipD ds es)[i]? = some (.tup [d, e])
  | [], _, i, _, _, h, _ => by simp at h
  | _ :: _, [], i, _, _, _, h => by simp at h
  | d :: ds, e :: es, 0, _, _, h1, h2 => by simp at h1 h2; subst h1 h2; simp [zipD]
  | d :: ds, e :: es, i + 1, a, b, h1, h2 => by
    rw [zipD, List.getElem?_cons_succ]
    exact zipD_get ds es i a b (by simpa using h1) (by simpa using h2)
def mEnT (m : ME) : MI := fun env g => (m env g).bind fun d g1 => match d with
  | .tup ds => .ok (enumD 0 ds) g1
  | _ => .stuck
def mEnL (m : ME) : MI := fun env g => (m env g).bind fun d g1 => match d with
  | .lst ds => .ok (enumD 0 ds) g1
  | _ => .stuck
def mZip (m m2 : ME) : MI := fun env g => (m env g).bind fun d g1 => (m2 env g1).bind fun e g2 => match d, e with
  | .tup ds, .tup es => .ok (zipD ds es) g2
  | .lst ds, .lst es => .ok (zipD ds es) g2
  | _, _ => .stuck
section
variable {X : Cx} {C : Cst} {Wx : WX}
theorem walk_enumT {a : Addr} {xs : List V} : Walk (IteT a) xs.length (fun H => H a = some (.tup xs)) (YPair (fun i => some (.int (i : Nat))) (fun i => xs[i]?)) :=
  ⟨fun i H hi h => ⟨xs, xs[i], h, by simp [hi]⟩, fun H h => ⟨xs, h, rfl⟩, fun i H x H' hi h ⟨T, y, e1, e2, e3, e4⟩ => ⟨T, .int (i : Nat), y, e1, e2, e3, rfl, e4 xs h⟩⟩
theorem walk_zipT {K : PySem.W.Frag} {a b : Addr} {xs ys : List V} : Walk (ItzT K a b) (min xs.length ys.length) (fun H => SqT K H a xs ∧ SqT K H b ys) (YPair (fun i => xs[i]?) (fun i => ys[i]?)) :=
  ⟨fun i H hi h => ⟨xs, ys, xs[i]'(by omega), ys[i]'(by omega), h.1, h.2, by simp, by simp⟩, fun H h => ⟨xs, ys, h.1, h.2, by omega⟩, fun i H x H' hi h ⟨T, u, v, e1, e2, e3, e4, e5⟩ => ⟨T, u, v, e1, e2, e3, e4 xs h.1, e5 ys h.2⟩⟩
/-- pairs are given out -/
theorem itr_pair {r : List Addr} {W : Addr → Prop} {H : Hp} {ds : List D} {n : Nat} {J : It} {Gd : Hp → Prop} {xs ys : Nat → Option V} (hz : n ≤ sizeLine) (hn : ds.length = n) (w : Walk J n Gd (YPair xs ys)) (st : ∀ r' W' H', Kp r r' W W' H H' → Gd H')
    (it : ∀ (i : Nat) x y r' W' H', i < n → Kp r r' W W' H H' → xs i = some x → ys i = some y → ∃ d e, ds[i]? = some (.tup [d, e]) ∧ Rp C r' W' H' d x ∧ Rp C r' W' H' e y) : ItR C r W H ds J := by
  refine ⟨by rw [hn]; exact hz, Gd, _, by rw [hn]; exact w, st, fun i r' W' g' H' x H'' k b hi y => ?_⟩
  obtain ⟨T, u, v, e1, e2, e3, e4, e5⟩ := y
  subst e1 e3
  obtain ⟨d, e, h1, h2, h3⟩ := it i u v r' W' H' (by rw [← hn]; exact hi) k e4 e5
  exact ⟨_, h1, b.upd e2, Step.upd e2, Rp.newT b e2 (by show 2 ≤ sizeLine; decide) (.cons h2 (.cons h3 .nil))⟩
theorem itr_enum {r : List Addr} {W : Addr → Prop} {H : Hp} {ds : List D} {us : List V} {J : It} {Gd : Hp → Prop} (hz : us.length ≤ sizeLine) (q : RpL C r W H ds us) (w : Walk J us.length Gd (YPair (fun i => some (.int (i : Nat))) (fun i => us[i]?))) (st : ∀ r' W' H', Kp r r' W W' H H' → Gd H') : ItR C r W H (enumD 0 ds) J :=
  itr_pair hz (by rw [enumD_len, q.length]) w st fun i x y r' W' H' hi k e1 e2 => by
    cases e1
    obtain ⟨d, h1, h2⟩ := (q.keep k).getV e2
    exact ⟨.int (i : Nat), d, by rw [enumD_get, h1, Nat.zero_add]; rfl, .int _, h2⟩
theorem itr_zip {r : List Addr} {W : Addr → Prop} {H : Hp} {ds es : List D} {us vs : List V} {J : It} {Gd : Hp → Prop} (hz : us.length ≤ sizeLine) (q : RpL C r W H ds us) (q2 : RpL C r W H es vs) (w : Walk J (min us.length vs.length) Gd (YPair (fun i => us[i]?) (fun i => vs[i]?))) (st : ∀ r' W' H', Kp r r' W W' H H' → Gd H') : ItR C r W H (zipD ds es) J :=
  itr_pair (by omega) (by rw [zipD_len, q.length, q2.length]) w st fun i x y r' W' H' hi k e1 e2 => by
    obtain ⟨d, h1, h2⟩ := (q.keep k).getV e1
    obtain ⟨e, h3, h4⟩ := (q2.keep k).getV e2
    exact ⟨d, e, zipD_get _ _ _ _ _ h1 h3, h2, h4⟩
theorem si_enT {e : Expr} {m : ME} {p pos tpos : Pos} {elts : List Expr} {kk : Nat} (hg : Gl X "enumerate") (hm : X.mg "enumerate" = none) (he : PE X e (RE C Wx m)) (hs : starEach [e] X.env = [(false, eval e X.env)] := by rfl) :
    PI X (.Tuple elts kk tpos) (.Call (.Name "enumerate" p) [e] [] pos) (RI C Wx (mEnT m)) := PIm (pi_enumT hg hm he hs) fun σ H Q h => by
  obtain ⟨W, env, oas, g, r, S, P⟩ := h
  refine ⟨W, env, oas, g, r, S, Post.mono (Post.split P) fun v H1 ⟨d, g1, r1, b1, s1, p1, q1⟩ => ?_⟩
  dsimp only at q1
  split at q1
  · cases p1 with
    | tup h hz hr hw q =>
      refine ⟨_, _, rfl, h, Post.here q1 b1 (itr_enum hz q walk_enumT fun r' W' H' k => k.ext _ _ h hr hw (fun _ z => by cases z))⟩
  · exact q1.elim
theorem si_enL {e : Expr} {m : ME} {p pos tpos : Pos} {elts : List Expr} {kk : Nat} (hK : C.K = X.K) (hg : Gl X "enumerate") (hm : X.mg "enumerate" = none) (he : PE X e (RE C Wx m)) (hs : starEach [e] X.env = [(false, eval e X.env)] := by rfl) :
    PI X (.Tuple elts kk tpos) (.Call (.Name "enumerate" p) [e] [] pos) (RI C Wx (mEnL m)) := PIm (pi_enum hg hm (pa_cons he pa_nil hs) hs) fun σ H Q h => by
  obtain ⟨W, env, oas, g, r, S, P⟩ := h
  refine ⟨W, env, oas, g, r, S, Post.mono (Post.split P) fun v H1 ⟨d, g1, r1, b1, s1, p1, q1⟩ => ?_⟩
  rw [← hK]
  dsimp only at q1
  split at q1
  · cases p1 with
    | lst h hz hr hw q =>
      refine ⟨_, _, rfl, .inl (.inl h), Post.here q1 b1 (itr_enum hz q walk_enum fun r' W' H' k => .inl (.inl (k.ext _ _ h hr hw (fun _ z => by cases z))))⟩
  · exact q1.elim
theorem si_zip {e e2 : Expr} {m m2 : ME} {p pos tpos : Pos} {elts : List Expr} {kk : Nat} (hK : C.K = X.K) (hg : Gl X "zip") (hm : X.mg "zip" = none) (he : PE X e (RE C Wx m)) (he2 : PE X e2 (RE C Wx m2)) (hs : starEach [e, e2] X.env = (false, eval e X.env) :: starEach [e2] X.env := by rfl) (hs2 : starEach [e2] X.env = [(false, eval e2 X.env)] := by rfl) (hpl : (backTo pos (starEach [e2] X.env)).any (·.1) = false := by rfl) :
    PI X (.Tuple elts kk tpos) (.Call (.Name "zip" p) [e, e2] [] pos) (RI C Wx (mZip m m2)) := PIm (pi_zipA hg hm (pa_cons he (pa_cons he2 pa_nil hs2) hs) hs hpl) fun σ H Q h => by
  obtain ⟨W, env, oas, g, r, S, P⟩ := h
  refine ⟨W, env, oas, g, r, S, Post.mono (Post.split P) fun v H1 ⟨d, g1, r1, b1, s1, p1, q1⟩ => ⟨W, env, oas, g1, r1, S.step s1 b1, Post.mono (Post.split q1) fun w H2 ⟨e, g2, r2, b2, s2, p2, q2⟩ => ?_⟩⟩
  have p1' := p1.step s2
  rw [← hK]
  dsimp only at q2
  split at q2
  · cases p1' with
    | tup h hz hr hw q =>
      cases p2 with
      | tup h' hz' hr' hw' q' =>
        refine ⟨_, _, _, _, rfl, .inr ⟨.inl (.inl h), .inl (.inl h'), Post.here q2 b2 (itr_zip hz q q' walk_zipT fun r' W' H' k => ⟨.inl (.inl (k.ext _ _ h hr hw (fun _ z => by cases z))), .inl (.inl (k.ext _ _ h' hr' hw' (fun _ z => by cases z)))⟩)⟩⟩
  · cases p1' with
    | lst h hz hr hw q =>
      cases p2 with
      | lst h' hz' hr' hw' q' =>
        refine ⟨_, _, _, _, rfl, .inl ⟨.inl (.inl h), .inl (.inl h'), Post.here q2 b2 (itr_zip hz q q' (walk_zip rfl) fun r' W' H' k => ⟨.inl (.inl (k.ext _ _ h hr hw (fun _ z => by cases z))), .inl (.inl (k.ext _ _ h' hr' hw' (fun _ z => by cases z)))⟩)⟩⟩
  · exact q2.elim

/-! ### a new object of one's own -/
def Ct (C : Cst) (r : List Addr) (W : Addr → Prop) (H : Hp) (ds : List D) (a : Addr) : Prop := ∃ xs, H a = some (.lst xs) ∧ xs.length ≤ sizeLine ∧ RpL C r W H ds xs
/-- a new list at a, that nothing else knows -/
def PostN (C : Cst) (Wx : WX) (W : Addr → Prop) (r : List Addr) (σ : L2.St) (H : Hp) {α : Type} (Cn : List Addr → (Addr → Prop) → Hp → α → Addr → Prop) (Q : VK) : R α → Prop
  | .ok ds g' => ∀ a H' r', Bs C (fun b => b = a ∨ W b) g' r' H' → Step r r' H H' → H a = none → ¬ W a → Cn r' (fun b => b = a ∨ W b) H' ds a → Q (.ref a) H'
  | .exc c fs g' => ∀ cl dx H' r', Bs C W g' r' H' → Step r r' H H' → ExR C r' W H' c fs cl dx → Wx (.ref cl) (some dx) σ H'
  | .stuck => False
def RN (C : Cst) (Wx : WX) (m : Ev → G → R (List D)) : TE := fun σ H Q => ∃ W env oas g r, Sm C W env oas g r σ H ∧ PostN C Wx W r σ H (Ct C) Q (m env g)
/-- as a value -/
def mNew (m : Ev → G → R (List D)) : ME := fun env g => (m env g).bind fun ds g1 => .ok (.lst ds) g1
theorem re_new {m : Ev → G → R (List D)} {σ : L2.St} {H : Hp} {Q : VK} (h : RE C Wx (mNew m) σ H Q) : RN C Wx m σ H Q := by
  obtain ⟨W, env, oas, g, r, S, P⟩ := h
  refine ⟨W, env, oas, g, r, S, ?_⟩
  unfold mNew at P
  revert P
  cases m env g with
  | ok ds g1 =>
    intro P a H' r' b s ha hw ⟨xs, h1, h2, h3⟩
    have hr : a ∉ r' := fun z => b.dis a z (.inl rfl)
    exact P _ _ r' (b.anti fun _ q => .inr q) s (.lst h1 h2 hr hw (h3.anti fun _ q => .inr q))
  | exc c fs g1 => exact fun P => P
  | stuck => exact fun P => P

theorem Step.newer {r r' : List Addr} {H H' : Hp} (s : Step r r' H H') {p : Addr} {o : HO} (hp : H p = none) : Step r r' H (L2.upd H' p o) :=
  ⟨s.pre, s.fresh, fun a u e hr no => by rw [upd_ne (ne_of_none e hp)]; exact s.ext a u e hr no, fun a e => s.dom a (upd_dom a e)⟩
/-! ### comprehensions -/
def R.nox {α : Type} : R α → R α
  | .ok a g => .ok a g
  | _ => .stuck
def wipeE (env : Ev) : List Nat → Ev
  | [] => env
  | v :: vs => (wipeE env vs).set v .no
def compL (bind : Bnd) (mt : MT) (me : ME) (env : Ev) : List D → G → R (List D)
  | [], g => .ok [] g
  | d :: ds, g => match bind d env with
    | none => .stuck
    | some env1 => (mt env1 g).nox.bind fun b g1 => if b then (me env1 g1).nox.bind fun y g2 => (compL bind mt me env ds g2).bind fun ys g3 => .ok (y :: ys) g3 else compL bind mt me env ds g1
def mComp (vs : List Nat) (mi : MI) (bind : Bnd) (mt : MT) (me : ME) : Ev → G → R (List D) := fun env g => (mi env g).bind fun ds g1 => compL bind mt me (wipeE env vs) ds g1
def mYes : MT := fun _ g => .ok true g
abbrev W0 : WX := fun _ _ _ _ => False
theorem Sm.wipe {W : Addr → Prop} {env : Ev} {oas : List (Option Addr)} {g : G} {r : List Addr} {σ : L2.St} {H : Hp} (m : Sm C W env oas g r σ H) : ∀ vs : List Nat, ∃ oas', Sm C W (wipeE env vs) oas' g r (wipe σ vs) H ∧ ∀ a, some a ∈ oas' → some a ∈ oas
  | [] => ⟨oas, m, fun _ h => h⟩
  | v :: vs => by
    obtain ⟨o, h1, h2⟩ := m.wipe vs
    exact ⟨o.set v none, h1.setNo v none, fun a h => h2 a (mem_set_none h)⟩
/-- what may be written grows by a new place -/
theorem Sm.more {W : Addr → Prop} {env : Ev} {oas : List (Option Addr)} {g : G} {r : List Addr} {σ : L2.St} {H : Hp} (m : Sm C W env oas g r σ H) {p : Addr} {o : HO} (hp : H p = none) (nt : ¬ Nw o) : Sm C (fun a => a = p ∨ W a) env oas g r σ (upd H p o) :=
  ⟨m.bs.more hp nt, m.sl.keep (Kp.more hp) fun a ha => by
      rw [upd_ne (fun q => m.bs.wtr a (m.own a ha) (by rw [q]; exact hp))], fun a h => .inr (m.own a h), m.ownd⟩
/-- .. and is written -/
theorem Sm.write {W : Addr → Prop} {env : Ev} {oas : List (Option Addr)} {g : G} {r : List Addr} {σ : L2.St} {H : Hp} (m : Sm C W env oas g r σ H) {p : Addr} {xs : List V} {o : HO} (hp : W p) (hl : H p = some (.lst xs)) (ho : some p ∉ oas) (nt : ¬ Nw o) : Sm C W env oas g r σ (upd H p o) :=
  ⟨m.bs.write hp (fun ps z => by rw [hl] at z; cases z) nt (fun q z => by rw [hl] at z; unfold LamX.CodeO at z; cases z), m.sl.keep (Kp.write hp) fun a ha => by
      rw [upd_ne (fun q => ho (by rw [← q]; exact ha))], m.own, m.ownd⟩
theorem Post.nox {Wx2 : WX} {W : Addr → Prop} {r : List Addr} {σ σ' : L2.St} {H : Hp} {α β : Type} {Rl : List Addr → Hp → α → β → Prop} {Q : β → Hp → Prop} {m : R α} (h : Post C Wx W r σ H Rl Q m.nox) : Post C Wx2 W r σ' H Rl Q m := by
  cases m with
  | ok d g => exact h
  | exc c fs g => exact h.elim
  | stuck => exact h
/-- the comprehension's reading, from its parts -/
theorem re_comp {vs is : List Nat} {mi : MI} {bind : Bnd} {mt : MT} {me : ME} {tg : TG} (hb : BindS C is tg bind) (hi : ∀ i ∈ is, i ∈ vs) {σ : L2.St} {H : Hp} {Q : VK} (h : RN C Wx (mComp vs mi bind mt me) σ H Q) : tLc (RI C Wx mi) tg (RT C W0 mt) (RE C W0 me) vs σ H Q := by
  obtain ⟨W, env, oas, g, r, S, P⟩ := h
  refine ⟨W, env, oas, g, r, S, ?_⟩
  unfold mComp at P
  revert P
  cases hmi : mi env g with
  | exc c fs g1 => exact fun P => P
  | stuck => exact fun P => P
  | ok ds g1 =>
    intro P J H1 r1 b1 s1 ⟨hz, Gd, Y, w, st, yl⟩ Dn hD
    have S1 := S.step s1 b1
    -- the new list at Dn
    have hDw : ¬ W Dn := b1.w0 hD
    have hD0 : H Dn = none := s1.dom _ hD
    have P : PostN C Wx W r σ H (Ct C) Q (compL bind mt me (wipeE env vs) ds g1) := P
    obtain ⟨oas1, Sw, ho1⟩ := (S1.more (p := Dn) (o := .lst []) hD (fun z => nomatch z)).wipe vs
    have nD : some Dn ∉ oas1 := fun z => b1.wtr Dn (S1.own Dn (ho1 _ z)) hD
    -- what holds between two turns
    refine lc_it w (σ := σ) (vs := vs) (fun i H' => ∃ r' g' ys acc, Sm C (fun a => a = Dn ∨ W a) (wipeE env vs) oas1 g' r' (L2.wipe σ vs) H' ∧ Kp r1 r' W (fun a => a = Dn ∨ W a) H1 H' ∧ Step r r' H H' ∧ H' Dn = some (.lst acc) ∧ acc.length ≤ i ∧ RpL C r' (fun a => a = Dn ∨ W a) H' ys acc ∧
        PostN C Wx W r σ H (Ct C) Q ((compL bind mt me (wipeE env vs) (ds.drop i) g').bind fun zs g3 => .ok (ys ++ zs) g3)) ?_ ?_ ?_ ?_
    · refine ⟨r1, g1, [], [], Sw, Kp.more hD, s1.trans (Step.upd hD), upd_same, Nat.zero_le _, .nil, ?_⟩
      rw [List.drop_zero]
      revert P
      cases compL bind mt me (wipeE env vs) ds g1 <;> exact fun P => P
    · rintro i H' _ ⟨r', g', ys, acc, _, k, _⟩
      exact st _ _ _ k
    · rintro i x H' H'' hi' ⟨r', g', ys, acc, Sm1, k, sr, ha, hla, qa, PP⟩ y
      obtain ⟨d, hd, b2, s2, q2⟩ := yl i r' _ g' H' x H'' k Sm1.bs hi' y
      have S2 := Sm1.step s2 b2
      have ha2 : H'' Dn = some (.lst acc) := s2.ext Dn _ ha (fun z => Sm1.bs.dis Dn z (.inl rfl)) (fun _ z => by cases z)
      have edrop : ds.drop i = d :: ds.drop (i + 1) := by
        obtain ⟨hlt, e⟩ := List.getElem?_eq_some_iff.mp hd
        rw [List.drop_eq_getElem_cons hlt, e]
      rw [edrop, compL] at PP
      cases hbd : bind d (wipeE env vs) with
      | none => rw [hbd] at PP; exact PP.elim
      | some env1 =>
        rw [hbd] at PP
        refine hb _ _ _ _ _ _ _ d x env1 _ S2 q2 hbd fun σ' oas' S3 ho3 hw3 => ⟨?_, ?_⟩
        · rw [hw3 vs hi, wipe_wipe]
        · have nD3 : some Dn ∉ oas' := fun z => nD (ho3 _ z)
          refine ⟨_, env1, oas', g', r', S3, ?_⟩
          dsimp only at PP
          revert PP
          cases hmt : mt env1 g' with
          | exc c fs g4 => exact fun PP => PP.elim
          | stuck => exact fun PP => PP.elim
          | ok b g4 =>
            intro PP c H4 r4 b4 s4 ec
            subst ec
            have S4 := S3.step s4 b4
            have k4 : Kp r1 r4 W (fun a => a = Dn ∨ W a) H1 H4 := (k.trans s2.kp).trans s4.kp
            have ha4 : H4 Dn = some (.lst acc) := s4.ext Dn _ ha2 (fun z => S3.bs.dis Dn z (.inl rfl)) (fun _ z => by cases z)
            have sr4 : Step r r4 H H4 := (sr.trans s2).trans s4
            cases c with
            | false =>
              refine iteF ⟨r4, g4, ys, acc, (Sm1.step s2 b2).step s4 b4, k4, sr4, ha4, by omega, (qa.step s2).step s4, ?_⟩
              exact PP
            | true =>
              refine iteT ⟨_, env1, oas', g4, r4, S4, ?_⟩
              simp only [R.nox, R.bind, if_true] at PP
              revert PP
              cases hme : me env1 g4 with
              | exc c fs g5 => exact fun PP => PP.elim
              | stuck => exact fun PP => PP.elim
              | ok y g5 =>
                intro PP v H5 r5 b5 s5 q5
                have ha5 : H5 Dn = some (.lst acc) := s5.ext Dn _ ha4 (fun z => S4.bs.dis Dn z (.inl rfl)) (fun _ z => by cases z)
                refine ⟨acc, ha5, by omega, r5, g5, ys ++ [y], acc ++ [v], ?_, ?_, ?_, upd_same, by simp; omega, ?_, ?_⟩
                · exact (((Sm1.step s2 b2).step s4 b4).step s5 b5).write (.inl rfl) ha5 nD (fun z => nomatch z)
                · exact (k4.trans s5.kp).trans (Kp.write (.inl rfl))
                · exact (sr4.trans s5).newer hD0
                · exact ((((qa.step s2).step s4).step s5).append (.cons q5 .nil)).keep (Kp.write (.inl rfl))
                · dsimp only at PP
                  revert PP
                  cases compL bind mt me (wipeE env vs) (ds.drop (i + 1)) g5 with
                  | ok zs g6 =>
                    intro PP
                    simp only [R.bind] at PP ⊢
                    rw [List.append_assoc]
                    exact PP
                  | exc c fs g6 => exact fun PP => PP
                  | stuck => exact fun PP => PP
    · rintro H' ⟨r', g', ys, acc, Sm1, k, sr, ha, hla, qa, PP⟩
      rw [List.drop_length] at PP
      have PP : PostN C Wx W r σ H (Ct C) Q (.ok (ys ++ []) g') := PP
      rw [List.append_nil] at PP
      exact PP Dn H' r' Sm1.bs sr hD0 hDw ⟨acc, ha, by omega, qa⟩

theorem pts_nilS : PTs X [] (RT C W0 mYes) := ⟨fun pins s σ H Q I h => pts_nil.run pins s σ H Q I (by
  obtain ⟨W, env, oas, g, r, S, P⟩ := h
  exact Post.here (d := true) (g := g) P S.bs rfl)⟩
theorem pts_oneS {c : Expr} {mt : MT} (h : PT X c (RT C W0 mt)) : PTs X [c] (RT C W0 mt) := pts_one h
/-- [elt for tg in iter if ..] -/
theorem sn_comp {elt tg iter : Expr} {ifs : List Expr} {scope : Scope} {own : List (Str × Nat)} {is : List Nat} {pos : Pos} {mi : MI} {bind : Bnd} {mt : MT} {me : ME} {tgt : TG} (hc : X.calm = true) (hN : X.N.Nodup) (hi : PI X tg iter (RI C Wx mi)) (ok : BlkOk X.N X.env.scope scope own) (hb : BindS C is tgt bind) (his : ∀ i ∈ is, i ∈ own.map (·.2))
    (hg : ∀ (s : Shared) (H : Hp) (C' : Addr) (cl : List (Str × Addr)) (fp : List Addr), PG (X.blk s H scope (compEnvC scope cl C' X.env) fp) tg tgt) (ht : ∀ (s : Shared) (H : Hp) (C' : Addr) (cl : List (Str × Addr)) (fp : List Addr), PTs (X.blk s H scope (compEnvC scope cl C' X.env) fp) ifs (RT C W0 mt))
    (he : ∀ (s : Shared) (H : Hp) (C' : Addr) (cl : List (Str × Addr)) (fp : List Addr), PE (X.blk s H scope (compEnvC scope cl C' X.env) fp) elt (RE C W0 me)) (hs : ∀ x, foldedSetIterable iter X.env x = pure x := by intro _; rfl) :
    PE X (.ListComp elt [⟨tg, iter, ifs, 0⟩] scope pos) (RN C Wx (mComp (own.map (·.2)) mi bind mt me)) :=
  PEm (pe_lc hc hN hi ok hg ht he hs) fun _ _ _ h => re_comp hb his h
theorem se_new {e : Expr} {m : Ev → G → R (List D)} (h : PE X e (RN C Wx m)) : PE X e (RE C Wx (mNew m)) := PEm h fun _ _ _ h => re_new h
/-- [a, b, ..] as a new list -/
def mItems (ms : MA) : Ev → G → R (List D) := fun env g => (ms env g).bind fun ds g1 => if ds.length ≤ 1000000 then .ok ds g1 else .stuck
theorem Ct.new {W : Addr → Prop} {g : G} {r : List Addr} {H : Hp} {p : Addr} {xs : List V} {ds : List D} (hp : H p = none) (hz : xs.length ≤ sizeLine) (q : RpL C r W H ds xs) : Ct C r (fun b => b = p ∨ W b) (L2.upd H p (.lst xs)) ds p := ⟨xs, upd_same, hz, q.keep (Kp.more hp)⟩
theorem sn_lst {es : List Expr} {pos : Pos} {ms : MA} (h : PA X es (RA C Wx ms)) : PE X (.List es pos) (RN C Wx (mItems ms)) := PEm (pe_lst h) fun σ H Q h => by
  obtain ⟨W, env, oas, g, r, S, P⟩ := h
  refine ⟨W, env, oas, g, r, S, ?_⟩
  unfold mItems at P
  revert P
  cases ms env g with
  | exc c fs g1 => exact fun P => P
  | stuck => exact fun P => P
  | ok ds g1 =>
    intro P xs H1 r1 b1 s1 p1
    simp only [R.bind] at P
    split at P
    · rename_i hl
      have hz : xs.length ≤ sizeLine := by rw [← p1.length]; exact mil hl
      exact ⟨hz, fun p hp => P p _ r1 (b1.more hp (fun z => nomatch z)) (s1.trans (Step.upd hp)) (s1.dom _ hp) (b1.w0 hp) (Ct.new (g := g1) hp hz p1)⟩
    · exact P.elim
/-- list(x) as a new list -/
def mListN (m : ME) : Ev → G → R (List D) := fun env g => (m env g).bind fun d g1 => match fList [d] with
  | some (.lst ds) => .ok ds g1
  | _ => .stuck
theorem sn_list {e : Expr} {p pos : Pos} {m : ME} (hK : C.K = X.K) (hc : X.calm = true) (hg : Gl X "list") (hm : X.mg "list" = none) (he : PE X e (RP C Wx m)) (hs : starEach [e] X.env = (false, eval e X.env) :: starEach [] X.env := by rfl) : PE X (.Call (.Name "list" p) [e] [] pos) (RN C Wx (mListN m)) :=
  PEm (pe_callTy (call_listA hc) hg hm boot_list (pa_cons he pa_nil hs) (by decide) (by decide) hs (by rfl)) fun σ H Q h => by
    obtain ⟨W, env, oas, g, r, S, P⟩ := h
    refine ⟨W, env, oas, g, r, S, ?_⟩
    unfold mListN at P
    revert P
    cases m env g with
    | exc c fs g1 => exact fun P => P
    | stuck => exact fun P => P
    | ok d g1 =>
      intro P v H1 r1 b1 s1 p1
      simp only [R.bind] at P
      split at P
      · rename_i ds e1
        rw [← hK]
        have new : ∀ {xs : List V} {l : Addr}, xs.length ≤ sizeLine → RpL C r1 W H1 ds xs → H1 l = none → Q (.ref l) (L2.upd H1 l (.lst xs)) := fun {xs l} hz q hl =>
          P l _ r1 (b1.more hl (fun z => nomatch z)) (s1.trans (Step.upd hl)) (s1.dom _ hl) (b1.w0 hl) (Ct.new (g := g1) hl hz q)
        unfold fList at e1
        split at e1
        · rename_i heq
          cases heq
          cases e1
          obtain ⟨a, us, rfl, h1, hz, q1⟩ := p1.isLst
          exact .inl ⟨a, us, rfl, .inl (.inl (.inl h1)), fun l hl => new hz q1 hl⟩
        · rename_i heq
          cases heq
          cases e1
          obtain ⟨a, us, rfl, h1, hz, q1⟩ := p1.isTup
          exact .inl ⟨a, us, rfl, .inr (.inl (.inl h1)), fun l hl => new hz q1 hl⟩
        · rename_i heq
          cases heq
          split at e1
          · rename_i hk
            cases e1
            obtain ⟨a, us, rfl, h1, h2, hz, _, q1⟩ := p1.isDT
            have hk2 : ∀ kv ∈ us, kv.1.length ≤ sizeLine := fun kv hkv => by
              have hm : kv.1 ∈ us.map (·.1) := List.mem_map.mpr ⟨kv, hkv, rfl⟩
              rw [← h2] at hm
              obtain ⟨kv', h3, h4⟩ := List.mem_map.mp hm
              have := List.all_eq_true.mp hk kv' h3
              rw [← h4]
              exact mil (of_decide_eq_true this)
            refine .inr (.inr ⟨a, us, rfl, h1, fun l bs hl hb => new (by rw [List.length_map, ← Paired.length hb]; exact hz) ?_ hl⟩)
            rw [map_fst (fun k => D.tup (k.map kD)) h2]
            exact keysT_rp b1 hz hk2 hb
          · cases e1
        · cases e1
      · exact P.elim
end
end GT

/-! GtG: statements, loops, defs. -/
namespace GT
open PySem PySem.Spec PyProof.Rows L2 RZ

inductive Fl where
  | nx | rt (d : D) | bk | ct
abbrev MS := Ev → G → R (Fl × Ev)
def Wf (oas : List (Option Addr)) (Wo : Addr → Prop) : Addr → Prop := fun a => some a ∈ oas ∨ Wo a
/-- a def's run: entered at H0, r0; Wo: what its callers may write -/
structure Ss (C : Cst) (H0 : Hp) (r0 : List Addr) (Wo : Addr → Prop) (env : Ev) (oas : List (Option Addr)) (g : G) (r : List Addr) (σ : L2.St) (H : Hp) : Prop where
  sm : Sm C (Wf oas Wo) env oas g r σ H
  st : Step r0 r H0 H
  fr : ∀ a, some a ∈ oas → H0 a = none
  wo : ∀ a, Wo a → H0 a ≠ none
def PoS (C : Cst) (Wx : WX) (H0 : Hp) (r0 : List Addr) (Wo : Addr → Prop) (r : List Addr) (oas : List (Option Addr)) (H : Hp) (D : Ends) : R (Fl × Ev) → Prop
  | .ok (.nx, env') g' => ∀ σ' H' oas' r', Ss C H0 r0 Wo env' oas' g' r' σ' H' → Kp r r' (Wf oas Wo) (Wf oas' Wo) H H' → D.nx σ' H'
  | .ok (.rt d, _) g' => ∀ v H' r', Bs C Wo g' r' H' → Step r0 r' H0 H' → Rp C r' Wo H' d v → D.rt v H'
  | .ok (.bk, env') g' => ∀ σ' H' oas' r', Ss C H0 r0 Wo env' oas' g' r' σ' H' → Kp r r' (Wf oas Wo) (Wf oas' Wo) H H' → D.bk σ' H'
  | .ok (.ct, env') g' => ∀ σ' H' oas' r', Ss C H0 r0 Wo env' oas' g' r' σ' H' → Kp r r' (Wf oas Wo) (Wf oas' Wo) H H' → D.ct σ' H'
  | .exc c fs g' => ∀ cl dx σ' H' r', Bs C Wo g' r' H' → Step r0 r' H0 H' → ExR C r' Wo H' c fs cl dx → Wx (.ref cl) (some dx) σ' H'
  | .stuck => False
def RS (C : Cst) (Wx : WX) (m : MS) : TS := fun D σ H => ∃ H0 r0 Wo env oas g r, Ss C H0 r0 Wo env oas g r σ H ∧ PoS C Wx H0 r0 Wo r oas H D (m env g)
section
variable {C : Cst} {Wx : WX} {H0 H H1 : Hp} {r0 r r1 : List Addr} {Wo : Addr → Prop} {oas oas1 : List (Option Addr)} {En : Ends} {env : Ev} {g g1 : G} {σ : L2.St}
theorem PoS.after {m : R (Fl × Ev)} (h : PoS C Wx H0 r0 Wo r oas H En m) (k : Kp r r1 (Wf oas Wo) (Wf oas1 Wo) H H1) : PoS C Wx H0 r0 Wo r1 oas1 H1 En m := by
  cases m with
  | stuck => exact h
  | exc c fs g => exact h
  | ok p g =>
    obtain ⟨f, e⟩ := p
    cases f with
    | nx => exact fun σ' H' oas' r' s k' => h σ' H' oas' r' s (k.trans k')
    | rt d => exact h
    | bk => exact fun σ' H' oas' r' s k' => h σ' H' oas' r' s (k.trans k')
    | ct => exact fun σ' H' oas' r' s k' => h σ' H' oas' r' s (k.trans k')
theorem Ss.step (S : Ss C H0 r0 Wo env oas g r σ H) (s : Step r r1 H H1) (b : Bs C (Wf oas Wo) g1 r1 H1) : Ss C H0 r0 Wo env oas g1 r1 σ H1 :=
  ⟨S.sm.step s b, S.st.trans s, S.fr, S.wo⟩
theorem ExR.anti {W W' : Addr → Prop} {c : Str} {fs : List (Str × D)} {cl dx : Addr} (h : ExR C r W H c fs cl dx) (hw : ∀ a, W' a → W a) : ExR C r W' H c fs cl dx := by
  obtain ⟨h1, h2, h3, xs, h4, h5, h6⟩ := h
  exact ⟨h1, h2, fun z => h3 (hw _ z), xs, h4, h5, h6.anti hw⟩
theorem wo_wf : ∀ a, Wo a → Wf oas Wo a := fun _ h => .inr h
/-- behind an expression -/
def ThenS (C : Cst) (Wx : WX) (H0 : Hp) (r0 : List Addr) (Wo : Addr → Prop) (r : List Addr) (oas : List (Option Addr)) (H : Hp) (D : Ends) {α β : Type} (Rl : List Addr → Hp → α → β → Prop) (f : α → G → R (Fl × Ev)) (v : β) (H1 : Hp) : Prop :=
  ∃ d g1 r1, Bs C (Wf oas Wo) g1 r1 H1 ∧ Step r r1 H H1 ∧ Rl r1 H1 d v ∧ PoS C Wx H0 r0 Wo r1 oas H1 D (f d g1)
theorem PoS.split {α β : Type} {Rl : List Addr → Hp → α → β → Prop} {m : R α} {f : α → G → R (Fl × Ev)} (S : Step r0 r H0 H) (h : PoS C Wx H0 r0 Wo r oas H En (m.bind f)) : Post C Wx (Wf oas Wo) r σ H Rl (ThenS C Wx H0 r0 Wo r oas H En Rl f) m := by
  cases m with
  | stuck => exact h
  | exc c fs g => exact fun cl dx H' r' b s q => h cl dx σ H' r' (b.anti wo_wf) (S.trans s) (q.anti wo_wf)
  | ok d g => exact fun v H' r' b s q => ⟨d, g, r', b, s, q, PoS.after (m := f d g) h s.kp⟩
theorem Ss.ret (S : Ss C H0 r0 Wo env oas g r σ H) {d : D} {v : V} {e : Ev} (P : PoS C Wx H0 r0 Wo r oas H En (.ok (.rt d, e) g)) (q : Rp C r (Wf oas Wo) H d v) : En.rt v H := P v H r (S.sm.bs.anti wo_wf) S.st (q.anti wo_wf)
theorem wf_sub (h : ∀ a, some a ∈ oas1 → some a ∈ oas) : ∀ a, Wf oas1 Wo a → Wf oas Wo a := fun a q => q.elim (fun q => .inl (h a q)) .inr
theorem kp_sub (h : ∀ a, some a ∈ oas1 → some a ∈ oas) : Kp r r (Wf oas Wo) (Wf oas1 Wo) H H := ⟨fun _ _ h => h, fun a q => q.elim .inl fun q => .inr (.inl (wf_sub h a q)), fun _ _ h _ _ _ => h, fun _ h => h⟩
theorem Ss.less {env' : Ev} {σ' : L2.St} (S : Ss C H0 r0 Wo env oas g r σ H) (m : Sm C (Wf oas Wo) env' oas1 g r σ' H) (h : ∀ a, some a ∈ oas1 → some a ∈ oas) : Ss C H0 r0 Wo env' oas1 g r σ' H :=
  ⟨m.anti (wf_sub h) fun _ q => .inl q, S.st, fun a q => S.fr a (h a q), S.wo⟩
end

section
variable {X : Cx} {C : Cst} {Wx : WX}
/-! ### blocks -/
def mSeq (m1 m2 : MS) : MS := fun env g => (m1 env g).bind fun p g1 => match p with
  | (.nx, env1) => m2 env1 g1
  | q => .ok q g1
def mSkip : MS := fun env g => .ok (.nx, env) g
theorem PSsm {e : List Stmt} {t t' : TS} (h : PSs X e t) (k : ∀ D σ H, t' D σ H → t D σ H) : PSs X e t' := ⟨fun pins s σ H D I q => h.run pins s σ H D I (k D σ H q)⟩
theorem PSm' {e : Stmt} {t t' : TS} (h : PS X e t) (k : ∀ D σ H, t' D σ H → t D σ H) : PS X e t' := ⟨fun pins s σ H D I q => h.run pins s σ H D I (k D σ H q)⟩
theorem rs_seq {m1 m2 : MS} {D : Ends} {σ : L2.St} {H : Hp} (h : RS C Wx (mSeq m1 m2) D σ H) : tSeq (RS C Wx m1) (RS C Wx m2) D σ H := by
  obtain ⟨H0, r0, Wo, env, oas, g, r, S, P⟩ := h
  refine ⟨H0, r0, Wo, env, oas, g, r, S, ?_⟩
  unfold mSeq at P
  revert P
  cases m1 env g with
  | stuck => exact fun P => P
  | exc c fs g1 => exact fun P => P
  | ok p g1 =>
    obtain ⟨f, e⟩ := p
    cases f with
    | nx => exact fun P σ' H' oas' r' s k => ⟨H0, r0, Wo, e, oas', g1, r', s, PoS.after (m := m2 e g1) P k⟩
    | rt d => exact fun P => P
    | bk => exact fun P => P
    | ct => exact fun P => P
theorem ss_cons {st : Stmt} {rest : List Stmt} {m1 m2 : MS} (h1 : PS X st (RS C Wx m1)) (h2 : PSs X rest (RS C Wx m2)) : PSs X (st :: rest) (RS C Wx (mSeq m1 m2)) := PSsm (pss_cons h1 h2) fun _ _ _ h => rs_seq h
theorem ss_one {st : Stmt} {m1 : MS} (h1 : PS X st (RS C Wx m1)) : PSs X [st] (RS C Wx m1) := pss_one h1
theorem ss_nil : PSs X [] (RS C Wx mSkip) := PSsm pss_nil fun D σ H h => by
  obtain ⟨H0, r0, Wo, env, oas, g, r, S, P⟩ := h
  exact P σ H oas r S (Kp.refl _ _ _)
/-- not reached -/
def mStop : MS := fun _ _ => .stuck
theorem ss_never {st : Stmt} : PS X st (RS C Wx mStop) := PSm' ps_never fun D σ H h => by
  obtain ⟨H0, r0, Wo, env, oas, g, r, S, P⟩ := h
  exact P
theorem sss_never {st : List Stmt} : PSs X st (RS C Wx mStop) := PSsm pss_never fun D σ H h => by
  obtain ⟨H0, r0, Wo, env, oas, g, r, S, P⟩ := h
  exact P
/-! ### small statements -/
def mRet (m : ME) : MS := fun env g => (m env g).bind fun d g1 => .ok (.rt d, env) g1
def mExp (m : ME) : MS := fun env g => (m env g).bind fun _ g1 => .ok (.nx, env) g1
def mIfS (c : MT) (m1 m2 : MS) : MS := fun env g => (c env g).bind fun b g1 => if b then m1 env g1 else m2 env g1
def mAsg (m : ME) (bind : Bnd) : MS := fun env g => (m env g).bind fun d g1 => match bind d env with
  | some env1 => .ok (.nx, env1) g1
  | none => .stuck
theorem ss_ret {e : Expr} {pos : Pos} {m : ME} (he : PE X e (RE C Wx m)) : PS X (.Return (some e) pos) (RS C Wx (mRet m)) := PSm' (ps_ret he) fun D σ H h => by
  obtain ⟨H0, r0, Wo, env, oas, g, r, S, P⟩ := h
  refine ⟨Wf oas Wo, env, oas, g, r, S.sm, Post.mono (PoS.split S.st P) fun v H1 ⟨d, g1, r1, b1, s1, p1, q1⟩ => ?_⟩
  exact (S.step s1 b1).ret q1 p1
def mRetN : MS := fun env g => .ok (.rt .non, env) g
theorem ss_retN {pos : Pos} : PS X (.Return none pos) (RS C Wx mRetN) := PSm' ps_retN fun D σ H h => by
  obtain ⟨H0, r0, Wo, env, oas, g, r, S, P⟩ := h
  exact S.ret P .non
theorem ss_expr {e : Expr} {pos : Pos} {m : ME} (he : PE X e (RE C Wx m)) (hs : swapsWith e none pos.line X.env = pure false := by rfl) : PS X (.Expr e pos) (RS C Wx (mExp m)) := PSm' (ps_expr he hs) fun D σ H h => by
  obtain ⟨H0, r0, Wo, env, oas, g, r, S, P⟩ := h
  refine ⟨Wf oas Wo, env, oas, g, r, S.sm, Post.mono (PoS.split S.st P) fun v H1 ⟨d, g1, r1, b1, s1, p1, q1⟩ => ?_⟩
  exact q1 σ H1 oas r1 (S.step s1 b1) (Kp.refl _ _ _)
theorem ss_if {c : Expr} {a b : List Stmt} {pos : Pos} {mc : MT} {m1 m2 : MS} (hc : PT X c (RT C Wx mc)) (ha : PSs X a (RS C Wx m1)) (hb : PSs X b (RS C Wx m2)) : PS X (.If c a b pos) (RS C Wx (mIfS mc m1 m2)) := PSm' (ps_if hc ha hb) fun D σ H h => by
  obtain ⟨H0, r0, Wo, env, oas, g, r, S, P⟩ := h
  refine ⟨Wf oas Wo, env, oas, g, r, S.sm, Post.mono (PoS.split S.st P) fun c H1 ⟨d, g1, r1, b1, s1, p1, q1⟩ => ?_⟩
  subst p1
  cases c with
  | true => exact iteT ⟨H0, r0, Wo, env, oas, g1, r1, S.step s1 b1, q1⟩
  | false => exact iteF ⟨H0, r0, Wo, env, oas, g1, r1, S.step s1 b1, q1⟩
/-- target = value, from the layer's rule -/
theorem ss_asg {st : Stmt} {m : ME} {is : List Nat} {tg : TG} {bind : Bnd} (h : PS X st (tAsg (RE C Wx m) tg)) (hb : BindS C is tg bind) : PS X st (RS C Wx (mAsg m bind)) := PSm' h fun D σ H h => by
  obtain ⟨H0, r0, Wo, env, oas, g, r, S, P⟩ := h
  refine ⟨Wf oas Wo, env, oas, g, r, S.sm, Post.mono (PoS.split S.st P) fun v H1 ⟨d, g1, r1, b1, s1, p1, q1⟩ => ?_⟩
  have S1 := S.step s1 b1
  dsimp only at q1
  split at q1
  · rename_i env1 e1
    exact hb _ _ _ _ _ _ _ d v env1 _ S1.sm p1 e1 fun σ' oas' m' ho _ => q1 σ' H1 oas' r1 (S1.less m' ho) (kp_sub ho)
  · exact q1.elim
/-- name = value -/
theorem ss_set (i : Nat) {x : Str} {e : Expr} {pos pos' : Pos} {m : ME} (hN : X.N.Nodup) (hi : X.N[i]? = some x) (hx : Loc X.env.scope x) (he : PE X e (RE C Wx m)) (hs : swapsWith e (some (.Name x pos')) pos.line X.env = pure false := by rfl) (hf : X.fn x = true ∨ X.env.scope.names.lookup x = some .local := by first | exact .inl rfl | exact .inr rfl | assumption) :
    PS X (.Assign [.Name x pos'] e pos) (RS C Wx (mAsg m (bName i))) := ss_asg (ps_set hN hi hx he hs hf) (bs_name i)
/-- a, b, .. = value -/
theorem ss_setT (is : List Nat) {es : List Expr} {k : Nat} {e : Expr} {pos pos' : Pos} {m : ME} (hK : C.K = X.K) (hc : X.calm = true) (hg : PGs X es (gNames is)) (he : PE X e (RE C Wx m)) (hn : (assignEach es X.env).length = is.length := by rfl) (hst : (assignEach es X.env).findIdx? (·.1) = none := by rfl)
    (hs : swapsWithSole [.Tuple es k pos'] e pos.line X.env = pure false := by rfl) (hw : swappedStores [.Tuple es k pos'] e X.env = pure none := by rfl) (h1 : (assignEach [.Tuple es k pos'] X.env).map (·.2) = [assign (.Tuple es k pos') X.env] := by rfl) : PS X (.Assign [.Tuple es k pos'] e pos) (RS C Wx (mAsg m (bTup is))) :=
  ss_asg (ps_asg he (pg_tup hc hg hn hst) hs hw h1) (by rw [← hK]; exact bs_tup is)
/-- x, y = a, b: two local names -/
def mPar (i j : Nat) (ms : MA) : MS := fun env g => (ms env g).bind fun ds g1 => match ds with
  | [d, e] => .ok (.nx, (env.set i (.val d)).set j (.val e)) g1
  | _ => .stuck
theorem ss_par (i j : Nat) {x y : Str} {a b : Expr} {px py pt pos : Pos} {kt k2 pt2} {ms : MA} (hc : X.calm = true) (hN : X.N.Nodup) (hi : X.N[i]? = some x) (hj : X.N[j]? = some y) (hij : i ≠ j)
    (hx : X.env.scope.names.lookup x = some .local) (hy : X.env.scope.names.lookup y = some .local) (ha : PA X [a, b] (RA C Wx ms))
    (hw : swappedStores [.Tuple [.Name x px, .Name y py] kt pt] (.Tuple [a, b] k2 pt2) X.env = pure (some [x, y]))
    (hs : swapsWithSole [.Tuple [.Name x px, .Name y py] kt pt] (.Tuple [a, b] k2 pt2) pos.line X.env = pure false := by rfl) :
    PS X (.Assign [.Tuple [.Name x px, .Name y py] kt pt] (.Tuple [a, b] k2 pt2) pos) (RS C Wx (mPar i j ms)) := PSm' (ps_par hc hN hi hj hij hx hy ha hw hs) fun D σ H h => by
  obtain ⟨H0, r0, Wo, env, oas, g, r, S, P⟩ := h
  refine ⟨Wf oas Wo, env, oas, g, r, S.sm, Post.mono (PoS.split S.st P) fun v H1 ⟨d, g1, r1, b1, s1, p1, q1⟩ => ?_⟩
  have S1 := S.step s1 b1
  dsimp only at q1
  split at q1
  · cases p1 with
    | cons h1 t1 =>
      cases t1 with
      | cons h2 t2 =>
        cases t2
        refine ⟨_, _, rfl, q1 _ H1 ((oas.set i none).set j none) r1 (S1.less ((S1.sm.setV i h1).setV j h2) fun a z => mem_set_none (mem_set_none z)) (kp_sub fun a z => mem_set_none (mem_set_none z))⟩
  · exact q1.elim

/-! ### lists of one's own -/
/-- name = a new list, that may grow -/
def mSetO (i : Nat) (m : Ev → G → R (List D)) : MS := fun env g => (m env g).bind fun ds g1 => .ok (.nx, env.set i (.ol ds)) g1
theorem get_set_some {l : List (Option Addr)} {i j : Nat} {a b : Addr} (h : (l.set i (some a))[j]? = some (some b)) : (j = i ∧ b = a) ∨ (j ≠ i ∧ l[j]? = some (some b)) := by
  by_cases e : i = j
  · subst e
    by_cases hl : i < l.length
    · rw [List.getElem?_set_self hl] at h; cases h; exact .inl ⟨rfl, rfl⟩
    · rw [List.getElem?_eq_none (by simpa using hl)] at h; cases h
  · rw [List.getElem?_set_ne e] at h
    exact .inr ⟨fun z => e z.symm, h⟩
theorem mem_set_some {l : List (Option Addr)} {i : Nat} {a b : Addr} (h : some b ∈ l.set i (some a)) : b = a ∨ some b ∈ l := by
  rcases List.mem_or_eq_of_mem_set h with q | q
  · exact .inr q
  · cases q; exact .inl rfl
/-- the new object becomes the name's own -/
theorem Ss.own {H0 H H' : Hp} {r0 r r' : List Addr} {Wo : Addr → Prop} {env : Ev} {oas : List (Option Addr)} {g g' : G} {σ : L2.St} {a : Addr} {s : Slot} (S : Ss C H0 r0 Wo env oas g r σ H) (i : Nat) (b : Bs C (fun z => z = a ∨ Wf oas Wo z) g' r' H') (st : Step r r' H H') (ha : H a = none)
    (ho : SlR C r' (fun z => z = a ∨ Wf oas Wo z) H' s (some a) (some (.ref a))) : Ss C H0 r0 Wo (env.set i s) (oas.set i (some a)) g' r' (σ.set i (some (.ref a))) H' ∧ Kp r r' (Wf oas Wo) (Wf (oas.set i (some a)) Wo) H H' := by
  have sub : ∀ z, Wf (oas.set i (some a)) Wo z → z = a ∨ Wf oas Wo z := fun z q => by
    rcases q with q | q
    · rcases mem_set_some q with e | e
      · exact .inl e
      · exact .inr (.inl e)
    · exact .inr (.inr q)
  have nW : ¬ Wf oas Wo a := S.sm.bs.w0 ha
  have k1 : Kp r r' (Wf oas Wo) (fun z => z = a ∨ Wf oas Wo z) H H' := ⟨st.pre, fun z q => by
      rcases q with q | q | q
      · rcases st.fresh z q with e | e
        · exact .inl e
        · exact .inr (.inr e)
      · exact .inr (.inr (by rw [q]; exact ha))
      · exact .inr (.inl q), fun z u e hr _ no => st.ext z u e hr no, st.dom⟩
  have sl1 : Sls C r' (fun z => z = a ∨ Wf oas Wo z) H' env oas σ := S.sm.sl.keep k1 fun z hz => by
    obtain ⟨u, h1, h2, _⟩ := S.sm.sl.tr hz
    rw [h1]
    exact st.ext z u h1 (fun q => S.sm.bs.dis z q (S.sm.own z hz)) h2
  have down : ∀ z, Wf (oas.set i (some a)) Wo z → (fun z => z = a ∨ Wf oas Wo z) z := sub
  refine ⟨⟨⟨b.anti down, ?_, fun z q => .inl q, fun j k z h1 h2 => ?_⟩, S.st.trans st, fun z q => ?_, S.wo⟩, ?_⟩
  · exact (sl1.set ho i).keep ⟨fun _ _ h => h, fun z q => q.elim .inl fun q => .inr (.inl (down z q)), fun _ _ h _ _ _ => h, fun _ h => h⟩ fun _ _ => rfl
  · rcases get_set_some h1 with ⟨e1, e2⟩ | ⟨e1, e2⟩ <;> rcases get_set_some h2 with ⟨e3, e4⟩ | ⟨e3, e4⟩
    · rw [e1, e3]
    · rw [e2] at e4; exact absurd (.inl (List.mem_of_getElem? e4)) nW
    · rw [e4] at e2; exact absurd (.inl (List.mem_of_getElem? e2)) nW
    · exact S.sm.ownd j k z e2 e4
  · rcases mem_set_some q with e | e
    · rw [e]; exact S.st.dom _ ha
    · exact S.fr z e
  · exact k1.trans ⟨fun _ _ h => h, fun z q => q.elim .inl fun q => .inr (.inl (down z q)), fun _ _ h _ _ _ => h, fun _ h => h⟩
theorem ss_own {st : Stmt} {m : Ev → G → R (List D)} (i : Nat) (h : PS X st (tAsg (RN C Wx m) (gName i))) : PS X st (RS C Wx (mSetO i m)) := PSm' h fun D σ H h => by
  obtain ⟨H0, r0, Wo, env, oas, g, r, S, P⟩ := h
  refine ⟨Wf oas Wo, env, oas, g, r, S.sm, ?_⟩
  unfold mSetO at P
  revert P
  cases m env g with
  | stuck => exact fun P => P
  | exc c fs g1 => exact fun P cl dx H' r' b s q => P cl dx σ H' r' (b.anti wo_wf) (S.st.trans s) (q.anti wo_wf)
  | ok ds g1 =>
    intro P a H' r' b s ha hw ⟨xs, h1, h2, h3⟩
    obtain ⟨S1, k1⟩ := S.own i b s ha (.ol h1 h2 h3)
    exact P _ H' _ r' S1 k1
/-- a name's own list is not changed any more: it is a value from now on -/
def frz (i : Nat) (env : Ev) : Ev := match env[i]? with
  | some (.ol ds) => env.set i (.val (.lst ds))
  | some (.oK kvs) => env.set i (.val (.dK kvs))
  | some (.oT kvs) => env.set i (.val (.dT kvs))
  | _ => env
def mFrz (i : Nat) (m : MS) : MS := fun env g => m (frz i env) g
theorem set_self {l : L2.St} {i : Nat} {v : Option V} (h : l[i]? = some v) : l.set i v = l := by
  obtain ⟨hl, e⟩ := List.getElem?_eq_some_iff.mp h
  subst e
  exact List.set_getElem_self hl
theorem Ss.frz {H0 H : Hp} {r0 r : List Addr} {Wo : Addr → Prop} {env : Ev} {oas : List (Option Addr)} {g : G} {σ : L2.St} (S : Ss C H0 r0 Wo env oas g r σ H) (i : Nat) : ∃ oas', Ss C H0 r0 Wo (GT.frz i env) oas' g r σ H ∧ ∀ a, some a ∈ oas' → some a ∈ oas := by
  have go : ∀ {s : Slot} {d : D}, env[i]? = some s → (∀ {a v}, SlR C r (Wf oas Wo) H s (some a) v → a ∉ r → v = some (.ref a) ∧ ∀ (W' : Addr → Prop), (∀ z, W' z → Wf oas Wo z) → ¬ W' a → Rp C r W' H d (.ref a)) → (∃ a v, oas[i]? = some (some a) ∧ σ[i]? = some v ∧ SlR C r (Wf oas Wo) H s (some a) v) →
      ∃ oas', Ss C H0 r0 Wo (env.set i (.val d)) oas' g r σ H ∧ ∀ a, some a ∈ oas' → some a ∈ oas := fun {s d} he hq ⟨a, v, h1, h2, h3⟩ => by
    have hm : some a ∈ oas := List.mem_of_getElem? h1
    have hr : a ∉ r := fun z => S.sm.bs.dis a z (S.sm.own a hm)
    obtain ⟨ev, hp⟩ := hq h3 hr
    subst ev
    have hsub : ∀ z, some z ∈ oas.set i none → some z ∈ oas := fun z q => mem_set_none q
    have nW : ¬ Wf (oas.set i none) Wo a := fun z => by
      rcases z with z | z
      · obtain ⟨j, hj⟩ := List.getElem?_of_mem z
        obtain ⟨h4, h5⟩ := get_set_none hj
        exact h5 (S.sm.ownd j i a h4 h1)
      · exact S.wo a z (S.fr a hm)
    refine ⟨oas.set i none, ⟨⟨S.sm.bs.anti (wf_sub hsub), ?_, fun z q => .inl q, fun j k z q1 q2 => S.sm.ownd j k z (get_set_none q1).1 (get_set_none q2).1⟩, S.st, fun z q => S.fr z (hsub z q), S.wo⟩, hsub⟩
    have sl : Sls C r (Wf (oas.set i none) Wo) H env oas σ := S.sm.sl.keep (kp_sub hsub) fun _ _ => rfl
    have := sl.set (.val (hp _ (wf_sub hsub) nW)) i
    rw [set_self h2] at this
    exact this
  unfold GT.frz
  split
  · rename_i ds e
    obtain ⟨o, v, h1, h2, h3⟩ := S.sm.sl.get e
    cases h3 with
    | ol h hz q => exact go e (fun {a v} h hr => by cases h with | ol h hz q => exact ⟨rfl, fun W' hw nw => .lst h hz hr nw (q.anti hw)⟩) ⟨_, _, h1, h2, .ol h hz q⟩
  · rename_i ds e
    obtain ⟨o, v, h1, h2, h3⟩ := S.sm.sl.get e
    cases h3 with
    | oK h hl hz q => exact go e (fun {a v} h hr => by cases h with | oK h hl hz q => exact ⟨rfl, fun W' hw nw => .dK (.inl h) hl hz hr nw (q.anti hw)⟩) ⟨_, _, h1, h2, .oK h hl hz q⟩
  · rename_i ds e
    obtain ⟨o, v, h1, h2, h3⟩ := S.sm.sl.get e
    cases h3 with
    | oT h hl hz q => exact go e (fun {a v} h hr => by cases h with | oT h hl hz q => exact ⟨rfl, fun W' hw nw => .dT (.inl h) hl hz hr nw (q.anti hw)⟩) ⟨_, _, h1, h2, .oT h hl hz q⟩
  · exact ⟨oas, S, fun _ h => h⟩
theorem ss_frz {st : Stmt} {m : MS} (i : Nat) (h : PS X st (RS C Wx m)) : PS X st (RS C Wx (mFrz i m)) := PSm' h fun D σ H h => by
  obtain ⟨H0, r0, Wo, env, oas, g, r, S, P⟩ := h
  obtain ⟨oas', S', ho⟩ := S.frz i
  exact ⟨H0, r0, Wo, frz i env, oas', g, r, S', PoS.after (m := m (frz i env) g) P (kp_sub ho)⟩
/-- the name's own list is written -/
theorem Ss.wr {H0 H : Hp} {r0 r : List Addr} {Wo : Addr → Prop} {env : Ev} {oas : List (Option Addr)} {g : G} {σ : L2.St} {i : Nat} {a : Addr} {s s' : Slot} {o : HO} (S : Ss C H0 r0 Wo env oas g r σ H) (h1 : oas[i]? = some (some a)) (h2 : σ[i]? = some (some (.ref a))) (h3 : SlR C r (Wf oas Wo) H s (some a) (some (.ref a)))
    (nt : ¬ Nw o) (ho : SlR C r (Wf oas Wo) (L2.upd H a o) s' (some a) (some (.ref a))) : Ss C H0 r0 Wo (env.set i s') oas g r σ (L2.upd H a o) ∧ Kp r r (Wf oas Wo) (Wf oas Wo) H (L2.upd H a o) := by
  have hm : some a ∈ oas := List.mem_of_getElem? h1
  have hw : Wf oas Wo a := .inl hm
  obtain ⟨u, e1, e2, e3⟩ := h3.tr
  have b : Bs C (Wf oas Wo) g r (L2.upd H a o) := S.sm.bs.write hw (fun ps z => e2 ps (Option.some.inj (e1.symm.trans z))) nt (fun q z => e3 q (Option.some.inj (e1.symm.trans z)))
  have k : Kp r r (Wf oas Wo) (Wf oas Wo) H (L2.upd H a o) := Kp.write hw
  refine ⟨⟨⟨b, ?_, S.sm.own, S.sm.ownd⟩, S.st.newer (S.fr a hm), S.fr, S.wo⟩, k⟩
  -- the other names' own objects stay
  have : ∀ {env : Ev} {l : List (Option Addr)} {τ : L2.St} (n : Nat), Sls C r (Wf oas Wo) H env l τ → (∀ j, l[j]? = some (some a) → j = n) → l[n]? = some (some a) → τ[n]? = some (some (.ref a)) → Sls C r (Wf oas Wo) (L2.upd H a o) (env.set n s') l τ := fun {env l τ} n hs => by
    induction hs generalizing n with
    | nil => intro _ z _; simp at z
    | cons h t ih =>
      intro hu z1 z2
      cases n with
      | zero =>
        simp only [List.getElem?_cons_zero, Option.some.injEq] at z1 z2
        subst z1 z2
        refine .cons ho (t.keep k fun b hb => ?_)
        rw [upd_ne (fun q => ?_)]
        subst q
        obtain ⟨j, hj⟩ := List.getElem?_of_mem hb
        have := hu (j + 1) (by simpa using hj)
        omega
      | succ n =>
        refine .cons (h.keep k fun b hb => ?_) (ih n (fun j hj => by have := hu (j + 1) (by simpa using hj); omega) (by simpa using z1) (by simpa using z2))
        rw [upd_ne (fun q => ?_)]
        subst q
        have := hu 0 (by simp [hb])
        omega
  exact this i S.sm.sl (fun j hj => S.sm.ownd j i a hj h1) h1 h2
def mApp (i : Nat) (m : ME) : MS := fun env g => match env[i]? with
  | some (.ol ds) => (m env g).bind fun d g1 => if ds.length < 1000000 then .ok (.nx, env.set i (.ol (ds ++ [d]))) g1 else .stuck
  | _ => .stuck
def mExt (i : Nat) (m : ME) : MS := fun env g => match env[i]? with
  | some (.ol ds) => (m env g).bind fun d g1 => match d with
    | .lst es => if ds.length + es.length ≤ 1000000 then .ok (.nx, env.set i (.ol (ds ++ es))) g1 else .stuck
    | _ => .stuck
  | _ => .stuck
theorem own_list {H0 H : Hp} {r0 r : List Addr} {Wo : Addr → Prop} {env : Ev} {oas : List (Option Addr)} {g : G} {σ : L2.St} {i : Nat} {ds : List D} (S : Ss C H0 r0 Wo env oas g r σ H) (e : env[i]? = some (.ol ds)) :
    ∃ a xs, oas[i]? = some (some a) ∧ σ[i]? = some (some (.ref a)) ∧ H a = some (.lst xs) ∧ xs.length ≤ sizeLine ∧ RpL C r (Wf oas Wo) H ds xs := by
  obtain ⟨o, v, h1, h2, h3⟩ := S.sm.sl.get e
  cases h3 with
  | ol h hz q => exact ⟨_, _, h1, h2, h, hz, q⟩
theorem rs_app {i : Nat} {m : ME} {En : Ends} {σ : L2.St} {H : Hp} (h : RS C Wx (mApp i m) En σ H) : tDrop (tBM X.K "list" rAppend (tVar i) (tCons (RE C Wx m) tNil)) En σ H := by
  obtain ⟨H0, r0, Wo, env, oas, g, r, S, P⟩ := h
  unfold mApp at P
  split at P
  · rename_i ds e
    obtain ⟨a, xs, h1, h2, h3, hz, q⟩ := own_list S e
    refine ⟨_, h2, .inl ⟨rfl, xs, .inl (.inl h3)⟩, Wf oas Wo, env, oas, g, r, S.sm, Post.mono (PoS.split S.st P) fun v H1 ⟨d, g1, r1, b1, s1, p1, q1⟩ => ?_⟩
    have S1 := S.step s1 b1
    obtain ⟨a', xs', h1', h2', h3', hz', q'⟩ := own_list S1 e
    rw [h1] at h1'
    cases h1'
    dsimp only at q1
    split at q1
    · rename_i hl
      have hlen : xs'.length < sizeLine := by rw [← q'.length]; exact mil' hl
      refine ⟨a, xs', v, rfl, rfl, h3', hlen, ?_⟩
      obtain ⟨S2, k2⟩ := S1.wr (o := .lst (xs' ++ [v])) h1 h2 (.ol h3' hz' q') (fun z => nomatch z) (.ol upd_same (by simp; omega) ((q'.append (.cons p1 .nil)).keep (Kp.write (.inl (List.mem_of_getElem? h1)))))
      exact q1 σ _ oas r1 S2 k2
    · exact q1.elim
  · exact P.elim
theorem rs_ext {i : Nat} {m : ME} {En : Ends} {σ : L2.St} {H : Hp} (h : RS C Wx (mExt i m) En σ H) : tDrop (tBM X.K "list" rExtend (tVar i) (tCons (RE C Wx m) tNil)) En σ H := by
  obtain ⟨H0, r0, Wo, env, oas, g, r, S, P⟩ := h
  unfold mExt at P
  split at P
  · rename_i ds e
    obtain ⟨a, xs, h1, h2, h3, hz, q⟩ := own_list S e
    refine ⟨_, h2, .inl ⟨rfl, xs, .inl (.inl h3)⟩, Wf oas Wo, env, oas, g, r, S.sm, Post.mono (PoS.split S.st P) fun v H1 ⟨d, g1, r1, b1, s1, p1, q1⟩ => ?_⟩
    have S1 := S.step s1 b1
    obtain ⟨a', xs', h1', h2', h3', hz', q'⟩ := own_list S1 e
    rw [h1] at h1'
    cases h1'
    dsimp only at q1
    split at q1
    · split at q1
      · rename_i hl
        obtain ⟨b, ys, rfl, h4, hz4, q4⟩ := (PRp.of p1).isLst
        · have hlen : xs'.length + ys.length ≤ sizeLine := by rw [← q'.length, ← q4.length]; exact mil hl
          refine ⟨a, b, xs', ys, rfl, rfl, h3', h4, hlen, ?_⟩
          obtain ⟨S2, k2⟩ := S1.wr (o := .lst (xs' ++ ys)) h1 h2 (.ol h3' hz' q') (fun z => nomatch z) (.ol upd_same (by rw [List.length_append]; exact hlen) ((q'.append q4).keep (Kp.write (.inl (List.mem_of_getElem? h1)))))
          exact q1 σ _ oas r1 S2 k2
      · exact q1.elim
    · exact q1.elim
  · exact P.elim
theorem ss_app {i : Nat} {st : Stmt} {m : ME} (h : PS X st (tDrop (tBM X.K "list" rAppend (tVar i) (tCons (RE C Wx m) tNil)))) : PS X st (RS C Wx (mApp i m)) := PSm' h fun _ _ _ h => rs_app h
theorem ss_ext {i : Nat} {st : Stmt} {m : ME} (h : PS X st (tDrop (tBM X.K "list" rExtend (tVar i) (tCons (RE C Wx m) tNil)))) : PS X st (RS C Wx (mExt i m)) := PSm' h fun _ _ _ h => rs_ext h
/-- x = y.pop(), y a name's own list -/
def mPop (i j : Nat) : MS := fun env g => match env[j]? with
  | some (.ol ds) => match ds[ds.length - 1]? with
    | some d => .ok (.nx, (env.set j (.ol ds.dropLast)).set i (.val d)) g
    | none => .stuck
  | _ => .stuck
theorem ss_pop {i j : Nat} {st : Stmt} (h : PS X st (tAsg (tBM0 X.K "list" rPop (tVar j)) (gName i))) : PS X st (RS C Wx (mPop i j)) := PSm' h fun En σ H h => by
  obtain ⟨H0, r0, Wo, env, oas, g, r, S, P⟩ := h
  unfold mPop at P
  split at P
  · rename_i ds e
    split at P
    · rename_i d e2
      obtain ⟨a, xs, h1, h2, h3, hz, q⟩ := own_list S e
      obtain ⟨v, h4, h5⟩ := q.get e2
      refine ⟨_, h2, .inl ⟨rfl, xs, .inl (.inl h3)⟩, a, xs, v, rfl, rfl, h3, by rw [← q.length]; exact h4, ?_⟩
      have hw : Wf oas Wo a := .inl (List.mem_of_getElem? h1)
      obtain ⟨S2, k2⟩ := S.wr (o := .lst xs.dropLast) h1 h2 (.ol h3 hz q) (fun z => nomatch z) (.ol upd_same (by rw [List.length_dropLast]; omega) (q.dropLast.keep (Kp.write hw)))
      have S3 := S2.sm.setV i (h5.keep (Kp.write hw))
      exact P _ _ (oas.set i none) r (S2.less S3 fun a z => mem_set_none z) (k2.trans (kp_sub fun a z => mem_set_none z))
    · exact P.elim
  · exact P.elim
/-! ### loops -/
def forL (bind : Bnd) (body : MS) : List D → Ev → G → R (Fl × Ev)
  | [], env, g => .ok (.nx, env) g
  | d :: ds, env, g => match bind d env with
    | none => .stuck
    | some env1 => (body env1 g).bind fun p g1 => match p with
      | (.nx, env2) => forL bind body ds env2 g1
      | (.ct, env2) => forL bind body ds env2 g1
      | (.bk, env2) => .ok (.nx, env2) g1
      | (.rt d, env2) => .ok (.rt d, env2) g1
def mFor (mi : MI) (bind : Bnd) (body : MS) : MS := fun env g => (mi env g).bind fun ds g1 => forL bind body ds env g1
theorem rs_for {mi : MI} {is : List Nat} {bind : Bnd} {body : MS} {tg : TG} (hb : BindS C is tg bind) {En : Ends} {σ : L2.St} {H : Hp} (h : RS C Wx (mFor mi bind body) En σ H) : tFor (RI C Wx mi) tg (RS C Wx body) En σ H := by
  obtain ⟨H0, r0, Wo, env, oas, g, r, S, P⟩ := h
  refine ⟨Wf oas Wo, env, oas, g, r, S.sm, Post.mono (PoS.split S.st P) fun J H1 ⟨ds, g1, r1, b1, s1, ⟨hz, Gd, Y, w, st, yl⟩, P1⟩ => ?_⟩
  have S1 := S.step s1 b1
  refine for_it w (fun i σ' H' => ∃ env' oas' g' r', Ss C H0 r0 Wo env' oas' g' r' σ' H' ∧ Kp r1 r' (Wf oas Wo) (Wf oas' Wo) H1 H' ∧ PoS C Wx H0 r0 Wo r' oas' H' En (forL bind body (ds.drop i) env' g')) ?_ ?_ ?_ ?_
  · exact ⟨env, oas, g1, r1, S1, Kp.refl _ _ _, by rw [List.drop_zero]; exact P1⟩
  · rintro i σ' H' _ ⟨env', oas', g', r', _, k, _⟩
    exact st _ _ _ k
  · rintro i x σ' H' H'' hi ⟨env', oas', g', r', S', k, PP⟩ y
    obtain ⟨d, hd, b2, s2, q2⟩ := yl i r' _ g' H' x H'' k S'.sm.bs hi y
    have S2 := S'.step s2 b2
    have edrop : ds.drop i = d :: ds.drop (i + 1) := by
      obtain ⟨hlt, e⟩ := List.getElem?_eq_some_iff.mp hd
      rw [List.drop_eq_getElem_cons hlt, e]
    rw [edrop, forL] at PP
    cases hbd : bind d env' with
    | none => rw [hbd] at PP; exact PP.elim
    | some env1 =>
      rw [hbd] at PP
      refine hb _ _ _ _ _ _ _ d x env1 _ S2.sm q2 hbd fun σ3 oas3 m3 ho3 _ => ?_
      have S3 := S2.less m3 ho3
      have k3 : Kp r' r' (Wf oas' Wo) (Wf oas3 Wo) H' H'' := (s2.kp).trans (kp_sub ho3)
      refine ⟨H0, r0, Wo, env1, oas3, g', r', S3, ?_⟩
      have PP := PoS.after PP k3
      dsimp only at PP
      revert PP
      cases body env1 g' with
      | stuck => exact fun PP => PP
      | exc c fs g4 => exact fun PP => PP
      | ok p g4 =>
        obtain ⟨f, e4⟩ := p
        cases f with
        | nx => exact fun PP σ4 H4 oas4 r4 S4 k4 => ⟨e4, oas4, g4, r4, S4, (k.trans k3).trans k4, PoS.after (m := forL bind body (ds.drop (i + 1)) e4 g4) PP k4⟩
        | ct => exact fun PP σ4 H4 oas4 r4 S4 k4 => ⟨e4, oas4, g4, r4, S4, (k.trans k3).trans k4, PoS.after (m := forL bind body (ds.drop (i + 1)) e4 g4) PP k4⟩
        | bk => exact fun PP => PP
        | rt d => exact fun PP => PP
  · rintro σ' H' ⟨env', oas', g', r', S', k, PP⟩
    rw [List.drop_length] at PP
    exact PP σ' H' oas' r' S' (Kp.refl _ _ _)
theorem ss_for {tg iter : Expr} {body : List Stmt} {mi : MI} {is : List Nat} {bind : Bnd} {mb : MS} {tgt : TG} {pos : Pos} (hp : PassesOwn (model X.prog X.w) X.A X.env X.xe) (hc : X.calm = true) (hi : PI X tg iter (RI C Wx mi)) (hg : PG X tg tgt) (hb : BindS C is tgt bind) (hbd : PSs X body (RS C Wx mb))
    (hs : ∀ x, foldedSetIterable iter X.env x = pure x := by intro _; rfl) : PS X (.For tg iter body [] pos) (RS C Wx (mFor mi bind mb)) := PSm' (ps_for hp hc hi hg hbd hs) fun _ _ _ h => rs_for hb h
def whileL (mt : MT) (body : MS) : Nat → Ev → G → R (Fl × Ev)
  | 0, _, _ => .stuck
  | n + 1, env, g => (mt env g).bind fun b g1 => if b then (body env g1).bind fun p g2 => match p with
      | (.nx, env2) => whileL mt body n env2 g2
      | (.ct, env2) => whileL mt body n env2 g2
      | (.bk, env2) => .ok (.nx, env2) g2
      | (.rt d, env2) => .ok (.rt d, env2) g2
    else .ok (.nx, env) g1
def mWhile (n : Nat) (mt : MT) (body : MS) : MS := fun env g => whileL mt body n env g
theorem rs_while {n : Nat} {mt : MT} {body : MS} {En : Ends} {σ : L2.St} {H : Hp} (h : RS C Wx (mWhile n mt body) En σ H) : tWhile (RT C Wx mt) (RS C Wx body) En σ H := by
  obtain ⟨H0, r0, Wo, env, oas, g, r, S, P⟩ := h
  refine ⟨fun m σ' H' => ∃ env' oas' g' r', Ss C H0 r0 Wo env' oas' g' r' σ' H' ∧ PoS C Wx H0 r0 Wo r' oas' H' En (whileL mt body m env' g'), ⟨n, env, oas, g, r, S, P⟩, ?_⟩
  rintro m σ' H' ⟨env', oas', g', r', S', PP⟩
  cases m with
  | zero => exact PP.elim
  | succ m =>
    rw [whileL] at PP
    refine ⟨Wf oas' Wo, env', oas', g', r', S'.sm, Post.mono (PoS.split S'.st PP) fun c H1 ⟨b, g1, r1, b1, s1, e1, q1⟩ => ?_⟩
    subst e1
    have S1 := S'.step s1 b1
    cases c with
    | false => exact iteF (q1 σ' H1 oas' r1 S1 (Kp.refl _ _ _))
    | true =>
      refine iteT ⟨fun σ4 H4 => ∃ env4 oas4 g4 r4, Ss C H0 r0 Wo env4 oas4 g4 r4 σ4 H4 ∧ PoS C Wx H0 r0 Wo r4 oas4 H4 En (whileL mt body m env4 g4), fun σ4 H4 q => ⟨m, Nat.lt_succ_self m, q⟩, H0, r0, Wo, env', oas', g1, r1, S1, ?_⟩
      simp only [if_true] at q1
      revert q1
      cases body env' g1 with
      | stuck => exact fun q => q
      | exc c fs g4 => exact fun q => q
      | ok p g4 =>
        obtain ⟨f, e4⟩ := p
        cases f with
        | nx => exact fun q σ4 H4 oas4 r4 S4 k4 => ⟨e4, oas4, g4, r4, S4, PoS.after (m := whileL mt body m e4 g4) q k4⟩
        | ct => exact fun q σ4 H4 oas4 r4 S4 k4 => ⟨e4, oas4, g4, r4, S4, PoS.after (m := whileL mt body m e4 g4) q k4⟩
        | bk => exact fun q => q
        | rt d => exact fun q => q
theorem ss_while (n : Nat) {c : Expr} {body : List Stmt} {mt : MT} {mb : MS} {pos : Pos} (hp : PassesOwn (model X.prog X.w) X.A X.env X.xe) (hc : PT X c (RT C Wx mt)) (hb : PSs X body (RS C Wx mb)) : PS X (.While c body [] pos) (RS C Wx (mWhile n mt mb)) := PSm' (ps_while hp hc hb) fun _ _ _ h => rs_while h
end

/-! ### a def -/
def ev0 (n : Nat) (ds : List D) : Ev := ds.map .val ++ List.replicate (n - ds.length) .no
def mDef (n : Nat) (m : MS) : List D → G → R D := fun ds g => match m (ev0 n ds) g with
  | .ok (.nx, _) g1 => .ok .non g1
  | .ok (.rt d, _) g1 => .ok d g1
  | .ok (.bk, _) _ => .stuck
  | .ok (.ct, _) _ => .stuck
  | .exc c fs g1 => .exc c fs g1
  | .stuck => .stuck
section
variable {P : Program} {w : World} {K : PySem.W.Frag} {mg : Str → Option Value} {base : Heap} {C : Cst}
theorem sls_start {r : List Addr} {W : Addr → Prop} {H : Hp} (k : Nat) : ∀ {ds : List D} {vs : List V}, RpL C r W H ds vs → ∃ oas, Sls C r W H (ds.map Slot.val ++ List.replicate k Slot.no) oas (vs.map some ++ List.replicate k none) ∧ ∀ a, some a ∉ oas
  | _, _, .nil => by
    induction k with
    | zero => exact ⟨[], .nil, fun a h => by cases h⟩
    | succ k ih =>
      obtain ⟨o, h1, h2⟩ := ih
      refine ⟨none :: o, .cons .no h1, fun a h => ?_⟩
      rcases List.mem_cons.mp h with e | e
      · cases e
      · exact h2 a e
  | _, _, .cons h t => by
    obtain ⟨o, h1, h2⟩ := sls_start k t
    refine ⟨none :: o, .cons (.val h) h1, fun a h => ?_⟩
    rcases List.mem_cons.mp h with e | e
    · cases e
    · exact h2 a e
theorem def_ok {x qual : Str} {st : Stmt} {f : Addr} {fd : FuncData} {N ps : List Str} {k : Nat} {m : MS} (F : L2.Fun K x qual st f fd) (S : FnScope N ps (defScope st))
    (hbody : ∀ (cdv : Value) (A : Around) (outer : List Env) (s : Shared) (H : Hp) (E : XK), Room k (A.deeper (envOfC qual (defScope st) s.heap.objs.size f cdv)) →
      PSs (cxOf (L2.CX P w) P w K mg base N qual (defScope st) f cdv A outer s H E) (defBody st) (RS C (fun cls d _ H' => E cls d H') m)) : FnOk P w K mg base (L2.CX P w) (k + 1) f fd ps (spOf C ps.length (mDef N.length m)) := by
  refine F.okX S (fun vs H Q E h => spOf_len h) fun cdv A outer s H vs Q E hr h => ⟨_, hbody cdv A outer s H E hr, ?_⟩
  obtain ⟨r, W, g, ds, b, q, hl, Po⟩ := h
  obtain ⟨oas, h1, h2⟩ := sls_start (C := C) (r := r) (W := W) (H := H) (N.length - vs.length) q
  have sub : ∀ a, Wf oas W a → W a := fun a z => z.elim (fun z => absurd z (h2 a)) id
  have hle : ds.length = vs.length := q.length
  have anti : Kp r r W (Wf oas W) H H := ⟨fun _ _ h => h, fun a q => q.elim .inl fun q => .inr (.inl (sub a q)), fun _ _ h _ _ _ => h, fun _ h => h⟩
  refine ⟨H, r, W, ev0 N.length ds, oas, g, r, ⟨⟨b.anti sub, ?_, fun a z => .inl z, fun i j a z _ => absurd (List.mem_of_getElem? z) (h2 a)⟩, Step.refl _ _, fun a z => absurd z (h2 a), fun a z => b.wtr a z⟩, ?_⟩
  · unfold ev0 L2.start
    rw [hle]
    exact h1.keep anti fun a z => absurd z (h2 a)
  · unfold mDef at Po
    revert Po
    cases m (ev0 N.length ds) g with
    | stuck => exact fun Po => Po
    | exc c fs g1 => exact fun Po cl dx σ' H' r' b s q => Po cl dx H' r' b s q
    | ok p g1 =>
      obtain ⟨fl, e⟩ := p
      cases fl with
      | nx => exact fun Po σ' H' oas' r' S' _ => Po .non H' r' (S'.sm.bs.anti wo_wf) S'.st .non
      | rt d => exact fun Po => Po
      | bk => exact fun Po => Po.elim
      | ct => exact fun Po => Po.elim
end
end GT

/-! GtH: what the printed texts use. -/
namespace GT
open PySem PySem.Spec PyProof.Rows L2 RZ
theorem hu0 {A : Around} {k : Nat} (hr : Room k A) : A.units < cLine := by have := hr.un; omega
theorem hu1 {A : Around} {k : Nat} (hr : Room k A) : A.units + 1 < cLine := by have := hr.un; omega
theorem hu64 {A : Around} {k : Nat} (hr : Room k A) : A.units + 64 < cLine := by have := hr.un; omega
theorem hu65 {A : Around} {k : Nat} (hr : Room k A) : A.units + 65 < cLine := by have := hr.un; omega
theorem bb_len : bootBuiltins "len" = some (.builtin "len") := by decide +kernel
theorem bb_max : bootBuiltins "max" = some (.builtin "max") := by decide +kernel
theorem bb_min : bootBuiltins "min" = some (.builtin "min") := by decide +kernel
theorem bb_sum : bootBuiltins "sum" = some (.builtin "sum") := by decide +kernel
theorem bb_any : bootBuiltins "any" = some (.builtin "any") := by decide +kernel
theorem bb_all : bootBuiltins "all" = some (.builtin "all") := by decide +kernel
theorem bb_int : bootBuiltins "int" = some (.type "int") := by decide +kernel
theorem bb_str : bootBuiltins "str" = some (.type "str") := by decide +kernel
theorem bb_bool : bootBuiltins "bool" = some (.type "bool") := by decide +kernel
theorem bb_list : bootBuiltins "list" = some (.type "list") := by decide +kernel
theorem bb_tuple : bootBuiltins "tuple" = some (.type "tuple") := by decide +kernel
section
variable {X : Cx} {C : Cst} {Wx : WX}
/-- -e -/
def mNeg (m : ME) : ME := fun env g => (m env g).bind fun d g1 => match d with
  | .int i => .ok (.int (-i)) g1
  | _ => .stuck
theorem se_neg {a : Expr} {pos : Pos} {m : ME} (ha : PE X a (RE C Wx m)) : PE X (.UnaryOp .USub a pos) (RE C Wx (mNeg m)) := PEm (pe_un un_neg ha) fun σ H Q h => by
  obtain ⟨W, env, oas, g, r, S, P⟩ := h
  refine ⟨W, env, oas, g, r, S, Post.mono (Post.split P) fun v H1 ⟨d, g1, r1, b1, s1, p1, q1⟩ => ?_⟩
  cases d with
  | int i => exact ⟨i, p1.isInt, Post.here (d := D.int (-i)) (g := g1) q1 b1 (.int _)⟩
  | _ => exact q1.elim
/-- name = [..] by the comprehension's own store -/
theorem ss_comp {i : Nat} {y : Str} {py : Pos} {elt tg iter : Expr} {ifs : List Expr} {scope : Scope} {own : List (Str × Nat)} {is : List Nat} {pos spos : Pos} {mi : MI} {bind : Bnd} {mt : MT} {me : ME} {tgt : TG} (hc : X.calm = true) (hN : X.N.Nodup) (hy : X.N[i]? = some y) (hyl : X.env.scope.names.lookup y = some .local)
    (hsw : swapsWith (.ListComp elt [⟨tg, iter, ifs, 0⟩] scope pos) (some (.Name y py)) spos.line X.env = pure true) (hi : PI X tg iter (RI C Wx mi)) (ok : BlkOk X.N X.env.scope scope own) (hb : BindS C is tgt bind) (his : ∀ i ∈ is, i ∈ own.map (·.2))
    (hg : ∀ (s : Shared) (H : Hp) (C' : Addr) (cl : List (Str × Addr)) (fp : List Addr), PG (X.blk s H scope (compEnvC scope cl C' X.env) fp) tg tgt) (ht : ∀ (s : Shared) (H : Hp) (C' : Addr) (cl : List (Str × Addr)) (fp : List Addr), PTs (X.blk s H scope (compEnvC scope cl C' X.env) fp) ifs (RT C W0 mt))
    (he : ∀ (s : Shared) (H : Hp) (C' : Addr) (cl : List (Str × Addr)) (fp : List Addr), PE (X.blk s H scope (compEnvC scope cl C' X.env) fp) elt (RE C W0 me)) (hs : ∀ x, foldedSetIterable iter X.env x = pure x := by intro _; rfl) :
    PS X (.Assign [.Name y py] (.ListComp elt [⟨tg, iter, ifs, 0⟩] scope pos) spos) (tAsg (RN C Wx (mComp (own.map (·.2)) mi bind mt me)) (gName i)) :=
  PSm' (ps_setLc hc hN hy hyl hsw hi ok hg ht he hs) fun En σ H h => re_comp hb his h
theorem ss_val {st : Stmt} {m : Ev → G → R (List D)} {i : Nat} (h : PS X st (tAsg (RN C Wx m) (gName i))) : PS X st (RS C Wx (mAsg (mNew m) (bName i))) := ss_asg (PSm' h fun En σ H h => re_new h) (bs_name i)
/-- name += e, name -= e: ints -/
def mAug (f : Int → Int → Int) (i : Nat) (m : ME) : MS := fun env g => match env[i]? with
  | some (.val (.int a)) => (m env g).bind fun d g1 => match d with
    | .int b => .ok (.nx, env.set i (.val (.int (f a b)))) g1
    | _ => .stuck
  | _ => .stuck
abbrev mAug_add := mAug fun i j => i + j
abbrev mAug_sub := mAug fun i j => i - j
theorem rs_aug {i : Nat} {m : ME} {f : Int → Int → Int} {En : Ends} {σ : L2.St} {H : Hp} (h : RS C Wx (mAug f i m) En σ H) : tAug i (RE C Wx m) (ipI f) En σ H := by
  obtain ⟨H0, r0, Wo, env, oas, g, r, S, P⟩ := h
  unfold mAug at P
  split at P
  · rename_i a e
    obtain ⟨o, v, h1, h2, h3⟩ := S.sm.sl.get e
    cases h3 with
    | val h =>
      refine ⟨_, h2, Wf oas Wo, env, oas, g, r, S.sm, Post.mono (PoS.split S.st P) fun v H1 ⟨d, g1, r1, b1, s1, p1, q1⟩ => ?_⟩
      have S1 := S.step s1 b1
      cases d with
      | int b =>
        refine ⟨a, b, h.isInt, p1.isInt, ?_⟩
        exact q1 _ H1 (oas.set i none) r1 (S1.less (S1.sm.setV i (.int _)) fun a z => mem_set_none z) (kp_sub fun a z => mem_set_none z)
      | _ => exact q1.elim
  · exact P.elim
theorem ss_aug_add (i : Nat) {x : Str} {e : Expr} {pos pos' : Pos} {m : ME} (hN : X.N.Nodup) (hi : X.N[i]? = some x) (hx : Loc X.env.scope x) (he : PE X e (RE C Wx m)) (hf : X.fn x = true ∨ X.env.scope.names.lookup x = some .local := by first | exact .inl rfl | exact .inr rfl | assumption) : PS X (.AugAssign (.Name x pos') .Add e pos) (RS C Wx (mAug_add i m)) := PSm' (ps_aug hN hi hx he ip_add hf) fun _ _ _ h => rs_aug h
theorem ss_aug_sub (i : Nat) {x : Str} {e : Expr} {pos pos' : Pos} {m : ME} (hN : X.N.Nodup) (hi : X.N[i]? = some x) (hx : Loc X.env.scope x) (he : PE X e (RE C Wx m)) (hf : X.fn x = true ∨ X.env.scope.names.lookup x = some .local := by first | exact .inl rfl | exact .inr rfl | assumption) : PS X (.AugAssign (.Name x pos') .Sub e pos) (RS C Wx (mAug_sub i m)) := PSm' (ps_aug hN hi hx he ip_sub hf) fun _ _ _ h => rs_aug h
end
/-- a def of the text that stands at its name -/
def At (K : PySem.W.Frag) (mg : Str → Option Value) (x : Str) (st : Stmt) : Prop := ∃ f fd, L2.Fun K x x st f fd ∧ mg x = some (.ref f)
/-- a def that may be called: it does what F does -/
def Cal (P : Program) (w : World) (base : Heap) (C : Cst) (x : Str) (k : Nat) (ps : List Str) (F : List D → G → R D) : Prop :=
  ∃ f fd, FnOk P w C.K C.mg base (L2.CX P w) k f fd ps (spOf C ps.length F) ∧ C.mg x = some (.ref f) ∧ PySem.W.keepIn C.K (.ref f) = true ∧ Binds C.K fd ps []
theorem cal_of {P : Program} {w : World} {base : Heap} {C : Cst} {x : Str} {st : Stmt} {N ps : List Str} {k : Nat} {m : MS} (F : At C.K C.mg x st) (S : FnScope N ps (defScope st))
    (hb : ∀ (kV doc pm : Value) (an : Option Addr) (cdv ct : Value) (us : List Value), us.length = ps.length → bindArgs (PySem.W.fnOf x x (defArgs st) (defBody st) (defScope st) .none kV doc pm an cdv ct) ⟨us, []⟩ = pure (ps.zip us))
    (hbody : ∀ (f : Addr) (cdv : Value) (A : Around) (outer : List Env) (s : Shared) (H : Hp) (E : XK), Room k (A.deeper (envOfC x (defScope st) s.heap.objs.size f cdv)) →
      PSs (cxOf (L2.CX P w) P w C.K C.mg base N x (defScope st) f cdv A outer s H E) (defBody st) (RS C (fun cls d _ H' => E cls d H') m)) : Cal P w base C x (k + 1) ps (mDef N.length m) := by
  obtain ⟨f, fd, F, g⟩ := F
  exact ⟨f, fd, def_ok F S (hbody f), g, F.kp, F.binds hb⟩
end GT

/-! GtI: lambdas: made, handed on, called. -/
namespace GT
open PySem PySem.Spec PyProof.Rows L2 RZ
def PinsOk (H : Hp) (as : List Addr) : Prop := ∀ a ∈ as, ∃ o, H a = some (PinO a o)
/-- without the pins; with them again -/
def unp (as : List Addr) (H : Hp) : Hp := fun a => if a ∈ as then none else H a
def rep (as : List Addr) (H0 H : Hp) : Hp := fun a => if a ∈ as then H0 a else H a
section
variable {as : List Addr} {H H0 H' : Hp} {a : Addr} {o : HO}
theorem unp_in (h : a ∈ as) : unp as H a = none := by unfold unp; rw [if_pos h]
theorem unp_out (h : a ∉ as) : unp as H a = H a := by unfold unp; rw [if_neg h]
theorem rep_in (h : a ∈ as) : rep as H0 H a = H0 a := by unfold rep; rw [if_pos h]
theorem rep_out (h : a ∉ as) : rep as H0 H a = H a := by unfold rep; rw [if_neg h]
theorem unp_some (h : unp as H a = some o) : a ∉ as ∧ H a = some o := by
  by_cases q : a ∈ as
  · rw [unp_in q] at h; cases h
  · rw [unp_out q] at h; exact ⟨q, h⟩
theorem unp_none (h : H a = none) : unp as H a = none := by
  by_cases q : a ∈ as
  · exact unp_in q
  · rw [unp_out q]; exact h
theorem PinsOk.out (p : PinsOk H as) (h : H a = some o) (no : ∀ ob, o ≠ PinO a ob) : a ∉ as := fun z => by
  obtain ⟨ob, e⟩ := p a z
  rw [h] at e
  exact no ob (Option.some.inj e)
theorem PinsOk.unp (p : PinsOk H as) (h : H a = some o) (no : ∀ ob, o ≠ PinO a ob) : unp as H a = some o := by rw [unp_out (p.out h no)]; exact h
theorem PinsOk.no (p : PinsOk H as) (h : H a = none) : a ∉ as := fun z => by
  obtain ⟨ob, e⟩ := p a z
  rw [h] at e; cases e
end
section
variable {P : Program} {w : World} {K : PySem.W.Frag} {mg : Str → Option Value} {base : Heap} {A : Around} {outer : List Env} {s s' : Shared} {as : List Addr} {H H' : Hp} {h : Heap}
theorem hok_unp (p : PinsOk H as) (x : HOk P w H h) : HOk P w (unp as H) h := fun a o e => by
  obtain ⟨n, e⟩ := unp_some e
  exact (x a o e).stay (fun b u _ q => q) (fun b q => p.unp q (fun ob z => by unfold PinO at z; cases z)) fun b xs q => p.unp q (fun ob z => by unfold PinO at z; cases z)
theorem hok_pin (x : HOk P w (unp as H) h) (p : ∀ a ∈ as, ∃ o, H a = some (PinO a o) ∧ h.get? a = some o) : HOk P w H h := fun a o e => by
  by_cases q : a ∈ as
  · obtain ⟨ob, e1, e2⟩ := p a q
    rw [e] at e1
    cases e1
    exact ⟨e2, ob, e2⟩
  · have e' : unp as H a = some o := by rw [unp_out q]; exact e
    exact (x a o e').stay (fun b u _ q => q) (fun b q => (unp_some q).2) fun b xs q => (unp_some q).2
theorem hok_rep (p : ∀ a ∈ as, ∃ o, H a = some (PinO a o) ∧ h.get? a = some o) (z : ∀ a ∈ as, H' a = none) (x : HOk P w H' h) : HOk P w (rep as H H') h := by
  refine hok_pin (as := as) ?_ fun a ha => ?_
  · have e : unp as (rep as H H') = H' := by
      funext a
      by_cases q : a ∈ as
      · rw [unp_in q, z a q]
      · rw [unp_out q, rep_out q]
    rw [e]
    exact x
  · obtain ⟨o, e1, e2⟩ := p a ha
    exact ⟨o, by rw [rep_in ha]; exact e1, e2⟩
theorem env0_pin (x : Env0 P w K mg base A outer s (unp as H)) (p : ∀ a ∈ as, ∃ o, H a = some (PinO a o) ∧ s.heap.get? a = some o) (nf : ∀ a ∈ as, a ∉ frs outer) (nb : ∀ a ∈ as, base.get? a = none) : Env0 P w K mg base A outer s H where
  frames := x.frames
  mod := x.mod
  bs := fun b o e => ⟨(x.bs b o e).1, by
    rw [← unp_out (H := H) (as := as) fun z => by have := nb b z; rw [e] at this; cases this]
    exact (x.bs b o e).2⟩
  bsz := x.bsz
  funs := x.funs
  frf := fun b hb => by rw [← unp_out (H := H) (as := as) fun z => nf b z hb]; exact x.frf b hb
  hok := hok_pin x.hok p
  bare := x.bare
theorem env0_unp (p : PinsOk H as) (x : Env0 P w K mg base A outer s H) : Env0 P w K mg base A outer s (unp as H) :=
  ⟨x.frames, x.mod, fun b o e => ⟨(x.bs b o e).1, unp_none (x.bs b o e).2⟩, x.bsz, x.funs, fun b hb => unp_none (x.frf b hb), hok_unp p x.hok, x.bare⟩
/-- the callee ran with the pins -/
theorem cr_up {Q Q' : VK} {E E' : XK} {r : Result} (p : PinsOk H as) (nf : ∀ a ∈ as, a ∉ frs outer) (x : HOk P w H s.heap)
    (hq : ∀ v H', PinsOk H' as → Q' v H' → Q v (unp as H')) (he : ∀ c d H', PinsOk H' as → E' c d H' → E c d (unp as H')) (h : CR (L2.CX P w) outer P w H s Q' E' r s') : CR (L2.CX P w) outer P w (unp as H) s Q E r s' := by
  have same : ∀ H' : Hp, (∀ b o u, H b = some (.frz o u) → H' b = some (.frz o u)) → PinsOk H' as := fun H' f a ha => by
    obtain ⟨o, e⟩ := p a ha
    exact ⟨o, f a o _ e⟩
  have at0 : ∀ (H' : Hp) (a : Addr) (o : Obj), (∀ b o u, H b = some (.frz o u) → H' b = some (.frz o u)) → a ∈ as → s.heap.get? a = some o → H' a = some (PinO a o) := fun H' a o f ha e => by
    obtain ⟨o', e1⟩ := p a ha
    have z : s.heap.get? a = some o' := (x a _ e1).1
    rw [e] at z
    cases z
    exact f a _ _ e1
  cases r with
  | ok fl =>
    cases fl with
    | ret u =>
      obtain ⟨v, H', os, bare, un, hok, rv, q⟩ := h
      have p' := same H' un.frzs
      refine ⟨v, unp as H', os, bare, ⟨fun b o e n hb hx => ?_, fun b o e n hb hx => ?_, fun b o e n hx => ?_, fun b o e hx => un.there b o e hx, fun b xs e => ?_, fun b o u e => ?_, fun b ps e => ?_⟩, hok_unp p' hok, rv, hq v H' p' q⟩
      · by_cases z : b ∈ as
        · exact (hok b _ (at0 H' b o un.frzs z e)).1
        · rw [unp_out z] at n; exact un.keep b o e n hb hx
      · have z : b ∉ as := fun z => nf b z hb
        rw [unp_out z] at n; exact un.slot b o e n hb hx
      · by_cases z : b ∈ as
        · exact unp_in z
        · rw [unp_out z] at n ⊢; exact un.free b o e n hx
      · obtain ⟨z, e⟩ := unp_some e
        rw [unp_out z]; exact un.tups b xs e
      · obtain ⟨z, e⟩ := unp_some e
        rw [unp_out z]; exact un.frzs b o u e
      · obtain ⟨z, e⟩ := unp_some e
        rw [unp_out z]; exact un.tbls b ps e
    | next => exact h
    | brk => exact h
    | cont => exact h
  | error e =>
    obtain ⟨a, B, H', cls, d, eu, fl, hok, ub, na, os, bare, hE⟩ := h
    have p' := same H' ub.frzs
    refine ⟨a, B, unp as H', cls, d, eu, fl, hok_unp p' hok, ⟨fun b o e n hb => ?_, ub.slot, fun b o e n => ?_, ub.there, fun b xs e => ?_, fun b o u e => ?_, fun b ps e => ?_⟩, unp_none na, os, bare, he cls d H' p' hE⟩
    · by_cases z : b ∈ as
      · exact (hok b _ (at0 H' b o ub.frzs z e)).1
      · rw [unp_out z] at n; exact ub.keep b o e n hb
    · by_cases z : b ∈ as
      · exact unp_in z
      · rw [unp_out z] at n ⊢; exact ub.free b o e n
    · obtain ⟨z, e⟩ := unp_some e
      rw [unp_out z]; exact ub.tups b xs e
    · obtain ⟨z, e⟩ := unp_some e
      rw [unp_out z]; exact ub.frzs b o u e
    · obtain ⟨z, e⟩ := unp_some e
      rw [unp_out z]; exact ub.tbls b ps e
/-- the callee ran without the pins -/
theorem cr_down {Q Q' : VK} {E E' : XK} {r : Result} (p : PinsOk H as) (x : Env0 P w K mg base A outer s H)
    (hq : ∀ v H', (∀ a ∈ as, H' a = none) → Q' v H' → Q v (rep as H H')) (he : ∀ c d H', (∀ a ∈ as, H' a = none) → E' c d H' → E c d (rep as H H')) (h : CR (L2.CX P w) outer P w (unp as H) s Q' E' r s') : CR (L2.CX P w) outer P w H s Q E r s' := by
  have nf : ∀ a ∈ as, a ∉ frs outer := fun a ha z => by
    obtain ⟨o, e⟩ := p a ha
    rw [x.frf a z] at e; cases e
  have gt : ∀ a ∈ as, ∃ o, H a = some (PinO a o) ∧ s.heap.get? a = some o := fun a ha => by
    obtain ⟨o, e⟩ := p a ha
    exact ⟨o, e, (x.hok a _ e).1⟩
  cases r with
  | ok fl =>
    cases fl with
    | ret u =>
      obtain ⟨v, H', os, bare, un, hok, rv, q⟩ := h
      have z0 : ∀ a ∈ as, H' a = none := fun a ha => by
        obtain ⟨o, _, e⟩ := gt a ha
        exact un.free a o e (unp_in ha) (by simp)
      have gt' : ∀ a ∈ as, ∃ o, H a = some (PinO a o) ∧ s'.heap.get? a = some o := fun a ha => by
        obtain ⟨o, e1, e2⟩ := gt a ha
        exact ⟨o, e1, un.keep a o e2 (unp_in ha) (nf a ha) (by simp)⟩
      refine ⟨v, rep as H H', os, bare, ⟨fun b o e n hb hx => un.keep b o e (unp_none n) hb hx, fun b o e n hb hx => un.slot b o e (unp_none n) hb hx, fun b o e n hx => ?_, fun b o e hx => un.there b o e hx, fun b xs e => ?_, fun b o u e => ?_, fun b ps e => ?_⟩, hok_rep gt' z0 hok, rv, hq v H' z0 q⟩
      · rw [rep_out (p.no n)]; exact un.free b o e (unp_none n) hx
      · have z := p.out e (fun ob z => by unfold PinO at z; cases z)
        rw [rep_out z]; exact un.tups b xs (by rw [unp_out z]; exact e)
      · by_cases z : b ∈ as
        · rw [rep_in z]; exact e
        · rw [rep_out z]; exact un.frzs b o u (by rw [unp_out z]; exact e)
      · have z := p.out e (fun ob z => by unfold PinO at z; cases z)
        rw [rep_out z]; exact un.tbls b ps (by rw [unp_out z]; exact e)
    | next => exact h
    | brk => exact h
    | cont => exact h
  | error e =>
    obtain ⟨a, B, H', cls, d, eu, fl, hok, ub, na, os, bare, hE⟩ := h
    have z0 : ∀ a ∈ as, H' a = none := fun a ha => by
      obtain ⟨o, _, e⟩ := gt a ha
      exact ub.free a o e (unp_in ha)
    have gt' : ∀ a ∈ as, ∃ o, H a = some (PinO a o) ∧ B.get? a = some o := fun a ha => by
      obtain ⟨o, e1, e2⟩ := gt a ha
      exact ⟨o, e1, ub.keep a o e2 (unp_in ha) (nf a ha)⟩
    refine ⟨a, B, rep as H H', cls, d, eu, fl, hok_rep gt' z0 hok, ⟨fun b o e n hb => ub.keep b o e (unp_none n) hb, ub.slot, fun b o e n => ?_, ub.there, fun b xs e => ?_, fun b o u e => ?_, fun b ps e => ?_⟩, ?_, os, bare, he cls d H' z0 hE⟩
    · rw [rep_out (p.no n)]; exact ub.free b o e (unp_none n)
    · have z := p.out e (fun ob z => by unfold PinO at z; cases z)
      rw [rep_out z]; exact ub.tups b xs (by rw [unp_out z]; exact e)
    · by_cases z : b ∈ as
      · rw [rep_in z]; exact e
      · rw [rep_out z]; exact ub.frzs b o u (by rw [unp_out z]; exact e)
    · have z := p.out e (fun ob z => by unfold PinO at z; cases z)
      rw [rep_out z]; exact ub.tbls b ps (by rw [unp_out z]; exact e)
    · rw [rep_out (fun z => ?_)]
      · exact na
      · obtain ⟨o, _, e2⟩ := gt' a z
        rw [fl.2.1] at e2; cases e2
end
/-! ### the relation, without the pins and with them -/
section
variable {C : Cst} {r r' : List Addr} {W : Addr → Prop} {H H' : Hp} {as : List Addr} {g g' : G}
theorem Rd.unp {a : Addr} {o : HO} (p : PinsOk H as) (h : Rd H a o) (no : ∀ x, o ≠ .own x) (nf : ∀ x y, o ≠ .frz x y) : Rd (unp as H) a o := by
  rcases h with h | ⟨b, h⟩
  · exact .inl (p.unp h fun ob z => nf _ _ z)
  · exact .inr ⟨b, p.unp h fun ob z => by unfold PinO at z; cases z; exact no _ rfl⟩
mutual
theorem Rp.unp (p : PinsOk H as) : ∀ {d : D} {v : V}, d.nc = true → Rp C r W H d v → Rp C r W (unp as H) d v
  | _, _, _, .non => .non
  | _, _, _, .bl b => .bl b
  | _, _, _, .int i => .int i
  | _, _, _, .str x => .str x
  | _, _, n, .lst h hz hr hw q => .lst (p.unp h fun ob z => by unfold PinO at z; cases z) hz hr hw (RpL.unp p (by simpa only [D.nc] using n) q)
  | _, _, n, .tup h hz hr hw q => .tup (p.unp h fun ob z => by unfold PinO at z; cases z) hz hr hw (RpL.unp p (by simpa only [D.nc] using n) q)
  | _, _, n, .dK _ _ _ _ _ _ => by simp only [D.nc] at n; cases n
  | _, _, n, .dT _ _ _ _ _ _ => by simp only [D.nc] at n; cases n
  | _, _, _, .scr h hz hr hw => .scr (Rd.unp p h (fun _ z => by cases z) (fun _ _ z => by cases z)) hz hr hw
  | _, _, _, .scrK h1 h2 h3 h4 h5 h6 => .scrK h1 h2 h3 h4 h5 h6
  | _, _, _, .gr h => .gr h
  | _, _, n, .clo _ _ _ _ _ _ _ _ _ _ _ _ => by simp only [D.nc] at n; cases n
theorem RpL.unp (p : PinsOk H as) : ∀ {ds : List D} {vs : List V}, D.ncs ds = true → RpL C r W H ds vs → RpL C r W (unp as H) ds vs
  | _, _, _, .nil => .nil
  | _, _, n, .cons h t => by
    simp only [D.ncs, Bool.and_eq_true] at n
    exact .cons (Rp.unp p n.1 h) (RpL.unp p n.2 t)
end
theorem GOs.unp (p : PinsOk H as) : ∀ {g : G} {l : List Addr}, gnc g = true → GOs C r W H g l → GOs C r W (unp as H) g l
  | _, _, _, .nil => .nil
  | _, _, n, .cons h t => by
    unfold gnc at n
    rw [List.all_cons, Bool.and_eq_true] at n
    refine .cons ?_ (GOs.unp p n.2 t)
    cases h with
    | dct h hl hz q => exact .dct (p.unp h fun ob z => by unfold PinO at z; cases z) hl hz (RpL.unp p (by simpa only [GO.nc] using n.1) q)
    | ins h hl hc q => exact .ins (p.unp h fun ob z => by unfold PinO at z; cases z) hl hc (RpL.unp p (by simpa only [GO.nc] using n.1) q)
theorem Bs.unpB (p : PinsOk H as) (b : Bs C W g r H) (h1 : ∀ a ∈ as, a ∉ r ∧ ¬ W a) : Bs C W g r (unp as H) where
  tabs := fun q hq => by
    obtain ⟨ps, e1, e2, e3⟩ := b.tabs q hq
    refine ⟨ps, p.unp e1 (fun ob z => by unfold PinO at z; cases z), e2, fun pos cv hc => ?_⟩
    obtain ⟨c, q1, q2⟩ := e3 pos cv hc
    exact ⟨c, q1, p.unp q2 fun ob z => by unfold PinO LamX.CodeO at z; cases z⟩
  nd := b.nd
  rtr := fun a ha => by rw [unp_out fun z => (h1 a z).1 ha]; exact b.rtr a ha
  wtr := fun a ha => by rw [unp_out fun z => (h1 a z).2 ha]; exact b.wtr a ha
  dis := b.dis
  wnt := fun a ha xs n z => b.wnt a ha xs n (unp_some z).2
  objs := GOs.unp p b.gn b.objs
  gn := b.gn
theorem Step.unpS (s : Step r r' H H') : Step r r' (unp as H) (unp as H') where
  pre := s.pre
  fresh := fun a ha => (s.fresh a ha).imp id unp_none
  ext := fun a o e hr no => by
    obtain ⟨z, e⟩ := unp_some e
    rw [unp_out z]; exact s.ext a o e hr no
  dom := fun a e => by
    by_cases z : a ∈ as
    · exact unp_in z
    · rw [unp_out z] at e ⊢; exact s.dom a e
/-- more is known -/
theorem Bs.grow (b : Bs C W g r H) (e : ∀ a o, H a = some o → H' a = some o) : Bs C W g r H' where
  tabs := b.tabs.ext e
  nd := b.nd
  rtr := fun a ha z => b.rtr a ha (by
    cases q : H a with
    | none => rfl
    | some o => rw [e a o q] at z; cases z)
  wtr := fun a ha z => b.wtr a ha (by
    cases q : H a with
    | none => rfl
    | some o => rw [e a o q] at z; cases z)
  dis := b.dis
  wnt := fun a ha xs n z => by
    cases q : H a with
    | none => exact b.wtr a ha q
    | some o => rw [e a o q] at z; exact b.wnt a ha xs n (by rw [q]; exact z)
  objs := b.objs.keep ⟨fun _ _ h => h, fun a q => q.elim .inl fun q => .inr (.inl q), fun a o h _ _ _ => e a o h, fun a h => by
      cases q : H a with
      | none => rfl
      | some o => rw [e a o q] at h; cases h⟩ fun a ha => by
    cases q : H a with
    | none => exact absurd q (b.rtr a ha)
    | some o => rw [e a o q]
  gn := b.gn
theorem step_grow (e : ∀ a o, H a = some o → H' a = some o) : Step r r H H' := ⟨fun _ _ h => h, fun _ h => .inl h, fun a o h _ _ => e a o h, fun a h => by
    cases q : H a with
    | none => rfl
    | some o => rw [e a o q] at h; cases h⟩
theorem rep_ext (z : ∀ a ∈ as, H' a = none) : ∀ a o, H' a = some o → rep as H H' a = some o := fun a o e => by
  rw [rep_out fun q => ?_]
  · exact e
  · rw [z a q] at e; cases e
theorem Step.repS (s : Step r r' (unp as H) H') (b : Bs C W g r' H') (p : PinsOk H as) (z : ∀ a ∈ as, H' a = none) : Step r r' H (rep as H H') where
  pre := s.pre
  fresh := fun a ha => by
    have n : a ∉ as := fun q => b.rtr a ha (z a q)
    rcases s.fresh a ha with q | q
    · exact .inl q
    · rw [unp_out n] at q; exact .inr q
  ext := fun a o e hr no => by
    by_cases q : a ∈ as
    · rw [rep_in q]; exact e
    · rw [rep_out q]; exact s.ext a o (by rw [unp_out q]; exact e) hr no
  dom := fun a e => by
    by_cases q : a ∈ as
    · rw [rep_in q] at e; exact e
    · rw [rep_out q] at e
      have := s.dom a e
      rw [unp_out q] at this; exact this
theorem ExR.unp {c : Str} {fs : List (Str × D)} {cl dx : Addr} (p : PinsOk H as) (hn : D.ncs (fs.map (·.2)) = true) (h : ExR C r W H c fs cl dx) : ExR C r W (unp as H) c fs cl dx := by
  obtain ⟨h1, h2, h3, xs, h4, h5, h6⟩ := h
  exact ⟨h1, h2, h3, xs, h4, p.unp h5 (fun ob z => by unfold PinO at z; cases z), RpL.unp p hn h6⟩
theorem ExR.step {c : Str} {fs : List (Str × D)} {cl dx : Addr} (s : Step r r' H H') (h : ExR C r W H c fs cl dx) : ExR C r' W H' c fs cl dx := by
  obtain ⟨h1, h2, h3, xs, h4, h5, h6⟩ := h
  refine ⟨h1, fun z => ?_, h3, xs, h4, s.ext _ _ h5 h2 (fun _ z => by cases z), h6.step s⟩
  rcases s.fresh dx z with q | q
  · exact h2 q
  · rw [h5] at q; cases q
end
end GT

/-! GtJ: a lambda that is called; a lambda that is handed to a def. -/
namespace GT
open PySem PySem.Spec PyProof.Rows L2 RZ
/-- the names that a lambda catches, in the order of its closure -/
def freeN (scope : Scope) : List Str := ((scope.names.filter (fun y => y.2 == .free)).map (·.1)).reverse
theorem clo_eq (cells : List (Str × Addr)) : ∀ (names : List (Str × NameKind)) (acc : List (Str × Addr)), cloFrom cells names acc = ((names.filter (fun y => y.2 == .free)).map (fun y => (y.1, (cells.lookup y.1).getD 0))).reverse ++ acc
  | [], acc => by simp [cloFrom]
  | (n, k) :: r, acc => by
    unfold cloFrom
    by_cases q : (k == NameKind.free) = true
    · rw [if_pos q, clo_eq cells r, List.filter_cons_of_pos (by exact q)]
      simp
    · rw [if_neg q, clo_eq cells r, List.filter_cons_of_neg (by exact q)]
theorem clo_names (cells : List (Str × Addr)) (scope : Scope) : (cloFrom cells scope.names []).map (·.1) = freeN scope := by
  rw [clo_eq]
  unfold freeN
  simp [Function.comp_def]
/-- a lambda's names -/
structure LamSc (scope : Scope) (ps caps : List Str) : Prop where
  kind : scope.kind = .function
  co : scope.isCoroutine = false
  gen : scope.isGenerator = false
  noc : ∀ y ∈ scope.names, y.2 ≠ .cell
  par : ∀ x ∈ ps, scope.names.lookup x = some .local
  cap : ∀ x ∈ caps, scope.names.lookup x = some .free
  all : ∀ y ∈ scope.names, y.2 = .free → y.1 ∈ caps
  nd : (ps ++ caps).Nodup
def lamScB (scope : Scope) (ps caps : List Str) : Bool :=
  decide (scope.kind = .function) && !scope.isCoroutine && !scope.isGenerator && scope.names.all (fun y => !decide (y.2 = .cell)) && ps.all (fun x => decide (scope.names.lookup x = some .local)) && caps.all (fun x => decide (scope.names.lookup x = some .free)) &&
    scope.names.all (fun y => !decide (y.2 = .free) || decide (y.1 ∈ caps)) && decide (ps ++ caps).Nodup
theorem lamSc_by {scope : Scope} {ps caps : List Str} (h : lamScB scope ps caps = true) : LamSc scope ps caps := by
  unfold lamScB at h
  simp only [Bool.and_eq_true, Bool.or_eq_true, Bool.not_eq_true', decide_eq_true_eq, decide_eq_false_iff_not, List.all_eq_true] at h
  obtain ⟨⟨⟨⟨⟨⟨⟨h1, h2⟩, h3⟩, h4⟩, h5⟩, h6⟩, h7⟩, h8⟩ := h
  exact ⟨h1, h2, h3, h4, h5, h6, fun y hy e => (h7 y hy).resolve_left fun z => z e, h8⟩
abbrev clEnv (qual : Str) (scope : Scope) (cl : List (Str × Addr)) (L f c' : Addr) : Env := PySem.W.envX qual scope L f (.ref c') cl
/-- the context of a lambda's body -/
def clCx (P : Program) (w : World) (K : PySem.W.Frag) (mg : Str → Option Value) (base : Heap) (N : List Str) (qual : Str) (scope : Scope) (cl : List (Str × Addr)) (f c' : Addr) (A : Around) (outer : List Env) (s : Shared) (H : Hp) (E : XK) : Cx where
  prog := P
  w := w
  K := K
  mg := mg
  base := base
  A := A.deeper (clEnv qual scope cl s.heap.objs.size f c')
  N := N
  s_0 := s
  H_0 := H
  env := clEnv qual scope cl s.heap.objs.size f c'
  outer := outer
  stack := clEnv qual scope cl s.heap.objs.size f c' :: outer
  ex := []
  fn := fun _ => false
  calm := true
  pn := []
  xe := fun e s' => wpAny (model P w) (A.deeper (clEnv qual scope cl s.heap.objs.size f c')) (leaving (clEnv qual scope cl s.heap.objs.size f c') e) (fun _ s'' => L2.CX P w outer H s E e s'') (fun e' s'' => L2.CX P w outer H s E e' s'') s'
theorem look_of {α : Type} : ∀ {l : List (Str × α)} {i : Nat} {x : Str} {c : α}, (l.map (·.1)).Nodup → l[i]? = some (x, c) → l.lookup x = some c
  | [], _, _, _, _, h => by simp at h
  | (y, d) :: r, 0, x, c, _, h => by simp at h; obtain ⟨rfl, rfl⟩ := h; simp
  | (y, d) :: r, i + 1, x, c, n, h => by
    have h : r[i]? = some (x, c) := by simpa using h
    rw [List.map_cons, List.nodup_cons] at n
    have ne : (x == y) = false := by
      rw [beq_eq_false_iff_ne]
      intro e
      subst e
      exact n.1 (List.mem_map.mpr ⟨(x, c), List.mem_of_getElem? h, rfl⟩)
    rw [List.lookup_cons, ne]
    exact look_of n.2 h
theorem map_fst_zip {α β : Type} : ∀ (l : List α) (m : List β), m.length = l.length → (l.zip m).map (·.1) = l
  | [], _, _ => by simp
  | a :: l, [], h => by simp at h
  | a :: l, b :: m, h => by simp [map_fst_zip l m (by simpa using h)]
theorem zip_look {ps : List Str} {us : List Value} (hl : us.length = ps.length) (nd : ps.Nodup) {i : Nat} {x : Str} {u : Value} (h1 : ps[i]? = some x) (h2 : us[i]? = some u) : (ps.zip us).reverse.lookup x = some u := by
  have e : (ps.zip us)[i]? = some (x, u) := by rw [List.getElem?_zip_eq_some]; exact ⟨h1, h2⟩
  have lt : i < (ps.zip us).length := (List.getElem?_eq_some_iff.mp e).1
  refine look_of (i := (ps.zip us).length - 1 - i) ?_ ?_
  · rw [List.map_reverse, map_fst_zip ps us hl]
    unfold List.Nodup
    rw [List.pairwise_reverse]
    exact nd.imp Ne.symm
  · rw [List.getElem?_reverse (by omega), show (ps.zip us).length - 1 - ((ps.zip us).length - 1 - i) = i by omega]
    exact e
section
variable {P : Program} {w : World} {K : PySem.W.Frag} {mg : Str → Option Value} {base : Heap}
theorem cl_start {A : Around} {outer : List Env} {E : XK} {s : Shared} {H : Hp} {scope : Scope} {ps caps : List Str} {qual : Str} {cl : List (Str × Addr)} {f c' : Addr} {h₁ : Heap} {tk : Nat} {us cus : List Value} {vs cvs : List V} (L : LamSc scope ps caps) (e0 : Env0 P w K mg base A outer s H) (hd : A.handled = none)
    (hcl : cl.map (·.1) = caps) (hi : ∀ x y a, cl.lookup x = some a → cl.lookup y = some a → x = y) (hc : ∀ (i : Nat) (p : Str × Addr), cl[i]? = some p → H p.2 = none ∧ ∃ u, cus[i]? = some u ∧ s.heap.IsCell p.2 (some u)) (rv : Vals vs us) (rc : Vals cvs cus) (hl : vs.length = ps.length) (hlc : cvs.length = caps.length)
    (hns : h₁.Ns s.heap.objs.size fun y => (ps.zip us).reverse.lookup y) (kp : ∀ b o, s.heap.get? b = some o → h₁.get? b = some o) :
    Inv (clCx P w K mg base (ps ++ caps) qual scope cl f c' A outer s H E) [] ((vs ++ cvs).map some) H { s with heap := h₁, toks := tk } := by
  have ndc : (cl.map (·.1)).Nodup := by rw [hcl]; exact (List.nodup_append.mp L.nd).2.1
  have ndp : ps.Nodup := (List.nodup_append.mp L.nd).1
  have at_ : ∀ {y c}, cl.lookup y = some c → ∃ i, cl[i]? = some (y, c) := fun {y c} e => List.getElem?_of_mem (PySem.mem_of_lookup e)
  have noA : ∀ b : Addr, b ∉ (clCx P w K mg base (ps ++ caps) qual scope cl f c' A outer s H E).ex := fun b z => absurd (show b ∈ ([] : List Addr) from z) (by simp)
  refine ⟨⟨e0.mod, L.kind, rfl, rfl, Nat.le_refl _, hi, fun y hy => ?_, fun y c z _ => ?_, fun _ => hd, Around.frames_deeper e0.frames, .inr ⟨rfl, rfl⟩, fun b z => absurd z (noA b), e0.bs, e0.bsz, fun b _ _ => noA b,
      fun b z => absurd z (noA b), e0.funs, e0.frf⟩,
    rfl, e0.bare, Un.kept kp, ⟨_, hns, fun i y v e1 e2 e3 => ?_⟩, fun y c e => ?_, e0.hok.fresh (Nat.le_refl _), fun y c e => ?_, fun q hq => absurd (show q ∈ ([] : List (Addr × Obj)) ++ [] from hq) (by simp), e0.hok.kept kp, ?_⟩
  · have hy : scope.names.lookup y = some .cell ∨ scope.names.lookup y = some .free := hy
    rcases hy with hy | hy
    · exact absurd rfl (L.noc _ (PySem.mem_of_lookup hy))
    · have m := L.all _ (PySem.mem_of_lookup hy) rfl
      rw [← hcl] at m
      obtain ⟨⟨y', c⟩, hm, rfl⟩ := List.mem_map.mp m
      exact mem_lookup hm
  · have z : false = true := z
    cases z
  · have e1 : (ps ++ caps)[i]? = some y := e1
    have e2 : (vs ++ cvs)[i]? = some v := by
      rw [List.getElem?_map, Option.map_eq_some_iff] at e2
      obtain ⟨v', q1, q2⟩ := e2
      cases q2
      exact q1
    by_cases hlt : i < ps.length
    · rw [List.getElem?_append_left hlt] at e1
      rw [List.getElem?_append_left (by omega)] at e2
      obtain ⟨u, q1, q2⟩ := rv.get e2
      exact ⟨u, q2, .inl ⟨L.par y (List.mem_of_getElem? e1), zip_look (by rw [← rv.length]; exact hl) ndp e1 q1⟩⟩
    · rw [List.getElem?_append_right (by omega)] at e1
      rw [List.getElem?_append_right (by omega), hl] at e2
      obtain ⟨u, q1, q2⟩ := rc.get e2
      rw [← hcl, List.getElem?_map, Option.map_eq_some_iff] at e1
      obtain ⟨⟨y', c⟩, p1, rfl⟩ := e1
      obtain ⟨_, u', t1, t2⟩ := hc _ _ p1
      rw [q1] at t1
      cases t1
      refine ⟨u, q2, .inr ⟨.inr (L.cap _ ?_), c, look_of ndc p1, t2.keeps kp⟩⟩
      rw [← hcl]
      exact List.mem_map.mpr ⟨_, List.mem_of_getElem? p1, rfl⟩
  · obtain ⟨i, q⟩ := at_ e
    obtain ⟨_, u, _, t⟩ := hc i _ q
    exact ⟨_, t.keeps kp⟩
  · obtain ⟨i, q⟩ := at_ e
    exact (hc i _ q).1
  · show ((vs ++ cvs).map some).length = (ps ++ caps).length
    simp [hl, hlc]
end
/-- what a lambda does -/
structure LamOk (P : Program) (w : World) (base : Heap) (C : Cst) (k n : Nat) (ps : List Str) (m : ME) : Prop where
  sc : LamSc (C.L n).scope ps (C.L n).caps
  bind : ∀ (cl : List (Str × Addr)) (pm cv ct : Value) (us : List Value), us.length = ps.length → bindArgs (PySem.W.kla_fn "<lambda>" (C.L n).qual (C.L n).params (C.L n).body (C.L n).scope cl pm cv ct) ⟨us, []⟩ = pure (ps.zip us)
  body : ∀ (A : Around) (outer : List Env) (s : Shared) (H : Hp) (E : XK) (f c' : Addr) (cl : List (Str × Addr)), Room k (A.deeper (clEnv (C.L n).qual (C.L n).scope cl s.heap.objs.size f c')) →
    PE (clCx P w C.K C.mg base (ps ++ (C.L n).caps) (C.L n).qual (C.L n).scope cl f c' A outer s H E) (C.L n).body (RE C (fun cls d _ H' => E cls d H') m)
def mLam (n : Nat) (m : ME) : List D → List D → G → R D := fun cs ds g => if ds.length = n ∧ D.ncs cs = true ∧ D.ncs ds = true then m ((ds ++ cs).map Slot.val) g else .stuck
theorem sls_vals {C : Cst} {r : List Addr} {W : Addr → Prop} {H : Hp} : ∀ {ds : List D} {vs : List V}, RpL C r W H ds vs → Sls C r W H (ds.map Slot.val) (ds.map fun _ => none) (vs.map some)
  | _, _, .nil => .nil
  | _, _, .cons h t => .cons (.val h) (sls_vals t)
theorem no_own {ds : List D} {a : Addr} : some a ∉ ds.map (fun _ => (none : Option Addr)) := fun z => by
  obtain ⟨_, _, e⟩ := List.mem_map.mp z
  cases e
theorem lam_run {P : Program} {w : World} {base : Heap} {C : Cst} {k n : Nat} {ps : List Str} {m : ME} {A : Around} {outer : List Env} {s : Shared} {H : Hp} {W : Addr → Prop} {g : G} {r : List Addr} {cs ds : List D} {f : Addr} {vs : List V} {us : List Value} {Q : VK} {E : XK}
    (L : LamOk P w base C k n ps m) (hr : Room (k + 1) A) (e0 : Env0 P w C.K C.mg base A outer s H) (b : Bs C W g r H) (hclo : Rp C r W H (.clo n cs) (.ref f)) (ha : RpL C r W H ds vs) (rv : Vals vs us)
    (h : Post C (fun cls d _ H' => E cls d H') W r [] H (RlE C W) Q (mLam ps.length m cs ds g)) : codeAny (model P w) A (.call (.ref f) ⟨us, []⟩) (CR (L2.CX P w) outer P w H s Q E) s := by
  unfold mLam at h
  split at h
  · rename_i hh
    obtain ⟨hl, n1, n2⟩ := hh
    cases hclo with
    | clo hf hfr hfw hc hcr hcw hcl hlu hi ho hv q =>
      rename_i c pm ct cl cus cvs
      obtain ⟨as, eas⟩ : ∃ as : List Addr, as = cl.map (·.2) := ⟨_, rfl⟩
      have pk : PinsOk H as := fun a ha => by
        rw [eas] at ha
        obtain ⟨p, hp, rfl⟩ := List.mem_map.mp ha
        obtain ⟨i, hi⟩ := List.getElem?_of_mem hp
        obtain ⟨o, u, q1, _⟩ := ho i p hi
        exact ⟨o, q1⟩
      have nrw : ∀ a ∈ as, a ∉ r ∧ ¬ W a := fun a ha => by
        rw [eas] at ha
        obtain ⟨p, hp, rfl⟩ := List.mem_map.mp ha
        obtain ⟨i, hi⟩ := List.getElem?_of_mem hp
        obtain ⟨o, u, q1, q2, q3, _⟩ := ho i p hi
        exact ⟨q2, q3⟩
      refine codeAny_mono ?_ fun r s' hr' => cr_down (Q' := fun v H' => (∀ a ∈ as, H' a = none) → Q v (rep as H H')) (E' := fun c d H' => (∀ a ∈ as, H' a = none) → E c d (rep as H H')) pk e0 (fun v H' z q => q z) (fun c d H' z q => q z) hr'
      have e0' := env0_unp pk e0
      have of1 := (e0.hok f _ hf).1
      obtain ⟨⟨oc, fs, t, hoc, hdc, hvc⟩, _, _⟩ := e0.hok c _ hc
      have bk : ∀ b o, base.get? b = some o → s.heap.get? b = some o := fun b o e => (e0.bs b o e).1
      have lim : s.heap.NoLimit := e0.mod.nolimit.keeps bk
      have hl' : vs.length = ps.length := by rw [← ha.length]; exact hl
      refine PySem.W.kla_callFunE hr.depth of1 rfl L.sc.co L.sc.gen rfl ⟨c, oc, fs, t, rfl, hoc, hdc, hvc⟩ ?_
      rw [L.bind cl pm (.ref c) ct us (by rw [← rv.length]; exact hl')]
      refine wpAny_pure (wpAny_newFunctionEnv L.sc.noc (fun y hy => L.sc.par _ (List.of_mem_zip hy).1) (fun h₁ hns hsb => ⟨lim.fresh _ hsb, ?_⟩) L.sc.kind)
      show codeAny _ _ (.expr (C.L n).body (clEnv (C.L n).qual (C.L n).scope cl s.heap.objs.size f c)) _ _
      have kp : ∀ b o, s.heap.get? b = some o → h₁.get? b = some o := fun b o e => hsb.extBut b o (Nat.ne_of_lt (Heap.lt_size e)) (Heap.get?_push_of_some _ e)
      have J : Inv (clCx P w C.K C.mg base (ps ++ (C.L n).caps) (C.L n).qual (C.L n).scope cl f c A outer s (unp as H) (fun c d H' => (∀ a ∈ as, H' a = none) → E c d (rep as H H'))) [] ((vs ++ cvs).map some) (unp as H) { s with heap := h₁, toks := s.toks + (ps.zip us).length } := by
        refine cl_start L.sc e0' hr.hd hcl hi (fun i p e => ?_) rv hv hl' ?_ hns kp
        · obtain ⟨o, u, q1, q2, q3, q4, q5⟩ := ho i p e
          exact ⟨unp_in (by rw [eas]; exact List.mem_map.mpr ⟨p, List.mem_of_getElem? e, rfl⟩), u, q4, o, (e0.hok _ _ q1).1, q5⟩
        · rw [← hcl, List.length_map, ← hlu]
          exact hv.length
      refine PySem.W.kla_codeExpr (wpAny_mono ((L.body A outer s (unp as H) (fun c d H' => (∀ a ∈ as, H' a = none) → E c d (rep as H H')) f c cl (hr.deeper _)).run [] _ _ (unp as H) (fun v H' => (∀ a ∈ as, H' a = none) → Q v (rep as H H')) J ?_) (fun v s' hq => ?_) fun e s' hq => hq)
      · have all : RpL C r W (unp as H) (ds ++ cs) (vs ++ cvs) := (RpL.unp pk n2 ha).append (RpL.unp pk n1 q)
        refine ⟨W, _, _, g, r, ⟨b.unpB pk nrw, sls_vals all, fun a z => absurd z no_own, fun i j a z _ => absurd (List.mem_of_getElem? z) no_own⟩, ?_⟩
        revert h
        cases m ((ds ++ cs).map Slot.val) g with
        | stuck => exact fun h => h
        | ok d g' => exact fun h v H' r' b' s' q' z => h v (rep as H H') r' (b'.grow (rep_ext z)) (s'.repS b' pk z) (q'.step (step_grow (rep_ext z)))
        | exc c fs g' => exact fun h cl' dx H' r' b' s' q' z => h cl' dx (rep as H H') r' (b'.grow (rep_ext z)) (s'.repS b' pk z) (q'.step (step_grow (rep_ext z)))
      · obtain ⟨w', H', J', rv', q'⟩ := hq
        exact ⟨w', H', J'.os, J'.bare, J'.base, J'.hok, rv', q'⟩
  · exact h.elim
end GT

/-! GtK: the call of a lambda by a name; a lambda made and handed to a def. -/
namespace GT
open PySem PySem.Spec PyProof.Rows L2 RZ
abbrev LFT := Nat → List D → List D → G → R D
/-- LF tells what the lambdas do -/
def LamAll (P : Program) (w : World) (base : Heap) (C : Cst) (k : Nat) (LF : LFT) : Prop :=
  ∀ n, (∃ ps m, LamOk P w base C k n ps m ∧ LF n = mLam ps.length m) ∨ ∀ cs ds g, LF n cs ds g = .stuck
def mCallV (LF : LFT) (i : Nat) (ms : MA) : ME := fun env g => match env[i]? with
  | some (.val (.clo n cs)) => (ms env g).bind fun ds g1 => LF n cs ds g1
  | _ => .stuck
section
variable {X : Cx} {C : Cst} {Wx : WX}
theorem fn_at {H : Hp} {r : List Addr} {W : Addr → Prop} {n : Nat} {cs : List D} {f : Addr} {h : Heap} {P : Program} {w : World} (x : HOk P w H h) (q : Rp C r W H (.clo n cs) (.ref f)) : PySem.W.FnAt f h := by
  cases q with
  | clo hf => exact ⟨_, _, _, _, (x f _ hf).1⟩
theorem clo_ref {H : Hp} {r : List Addr} {W : Addr → Prop} {n : Nat} {cs : List D} {v : V} (q : Rp C r W H (.clo n cs) v) : ∃ f, v = .ref f := by
  cases q with
  | clo hf => exact ⟨_, rfl⟩
theorem run_clo {k : Nat} {LF : LFT} {pins : List (Addr × Obj)} {σ : L2.St} {H : Hp} {s : Shared} {Q : VK} {W : Addr → Prop} {g : G} {r : List Addr} {n : Nat} {cs ds : List D} {f : Addr} {vs : List V} {us : List Value} (LA : LamAll X.prog X.w X.base C k LF) (hK : X.K = C.K) (hmg : X.mg = C.mg) (hr : Room (k + 1) X.A) (tk : Takes X Wx)
    (I : Inv X pins σ H s) (b : Bs C W g r H) (hc : Rp C r W H (.clo n cs) (.ref f)) (ha : RpL C r W H ds vs) (rv : Vals vs us) (h : Post C Wx W r σ H (RlE C W) Q (LF n cs ds g)) : wpAny (model X.prog X.w) X.A (call (.ref f) us) (EP X pins σ Q) X.xe s := by
  rcases LA n with ⟨ps, m, L, e⟩ | e
  · rw [e] at h
    have e0 := I.env0
    rw [hK, hmg] at e0
    refine wpAny_call (codeAny_mono (lam_run (E := WE Wx σ) L hr e0 b hc ha rv (h.wish fun _ _ _ z => z)) fun r s' hq => ?_)
    cases r with
    | error e => exact passAt tk σ pins H s e s' I hq
    | ok fl =>
      cases fl with
      | ret u => exact I.after hq
      | next => exact False.elim hq
      | brk => exact False.elim hq
      | cont => exact False.elim hq
  · rw [e] at h
    exact h.elim
theorem se_callv {k : Nat} {LF : LFT} (i : Nat) {a : Str} {e : Expr} {es : List Expr} {p1 p2 : Pos} {ms : MA} (LA : LamAll X.prog X.w X.base C k LF) (hr : Room (k + 1) X.A) (tk : Takes X Wx) (ha : PA X (e :: es) (RA C Wx ms)) (hK : X.K = C.K := by rfl) (hmg : X.mg = C.mg := by rfl)
    (hN : X.N[i]? = some a := by rfl) (hv : Vis X.env.scope a := by first | exact Or.inl rfl | exact Or.inr (Or.inl rfl) | exact Or.inr (Or.inr rfl)) (hd : (a == ("__debug__" : Str)) = false := by decide) (hcd : (a == ("__classdict__" : Str)) = false := by decide)
    (he : starEach (e :: es) X.env = (false, eval e X.env) :: starEach es X.env := by rfl) (hpl : (backTo p2 (starEach es X.env)).any (·.1) = false := by rfl) :
    PE X (.Call (.Name a p1) (e :: es) [] p2) (RE C Wx (mCallV LF i ms)) := by
  refine ⟨fun pins s σ H Q I h => ?_⟩
  obtain ⟨W, env, oas, g, r, S, P⟩ := h
  unfold mCallV at P
  split at P
  · rename_i n cs hn
    obtain ⟨o, v, h1, h2, h3⟩ := S.sl.get hn
    cases h3 with
    | val hc =>
      obtain ⟨f, rfl⟩ := clo_ref hc
      refine wpAny_Call_Name_kw (thn ((pe_var (pos := p1) hN hv hd hcd).run pins s σ H (fun v H1 => v = .ref f ∧ H1 = H) I ⟨.ref f, h2, rfl, rfl⟩) fun u s1 ⟨v, H1, I1, r1, q1⟩ => ?_)
      obtain ⟨rfl, rfl⟩ := q1
      obtain rfl : u = Value.ref f := r1
      refine PySem.W.callWith_F (fn_at I1.hok hc) (thn (ha.run p2 pins s1 σ _ _ I1 ⟨W, env, oas, g, r, S, Post.split P⟩) fun us s2 ⟨vs, H2, I2, rv, ds, g1, r1, b1, st1, p1, q1⟩ => ?_) he hpl
      have hc2 := hc.step st1
      exact ⟨fn_at I2.hok hc2, run_clo LA hK hmg hr tk I2 b1 hc2 p1 rv q1⟩
  · exact P.elim
theorem se_callv0 {k : Nat} {LF : LFT} (i : Nat) {a : Str} {p1 p2 : Pos} (LA : LamAll X.prog X.w X.base C k LF) (hr : Room (k + 1) X.A) (tk : Takes X Wx) (hK : X.K = C.K := by rfl) (hmg : X.mg = C.mg := by rfl)
    (hN : X.N[i]? = some a := by rfl) (hv : Vis X.env.scope a := by first | exact Or.inl rfl | exact Or.inr (Or.inl rfl) | exact Or.inr (Or.inr rfl)) (hd : (a == ("__debug__" : Str)) = false := by decide) (hcd : (a == ("__classdict__" : Str)) = false := by decide) :
    PE X (.Call (.Name a p1) [] [] p2) (RE C Wx (mCallV LF i mNil)) := by
  refine ⟨fun pins s σ H Q I h => ?_⟩
  obtain ⟨W, env, oas, g, r, S, P⟩ := h
  unfold mCallV at P
  split at P
  · rename_i n cs hn
    obtain ⟨o, v, h1, h2, h3⟩ := S.sl.get hn
    cases h3 with
    | val hc =>
      obtain ⟨f, rfl⟩ := clo_ref hc
      refine wpAny_Call_Name_kw (thn ((pe_var (pos := p1) hN hv hd hcd).run pins s σ H (fun v H1 => v = .ref f ∧ H1 = H) I ⟨.ref f, h2, rfl, rfl⟩) fun u s1 ⟨v, H1, I1, r1, q1⟩ => ?_)
      obtain ⟨rfl, rfl⟩ := q1
      obtain rfl : u = Value.ref f := r1
      exact PySem.W.callWith_F0 (fn_at I1.hok hc) (run_clo LA hK hmg hr tk I1 S.bs hc .nil .nil P)
  · exact P.elim
/-! ### a lambda is made -/
/-- what stays and is new when a lambda is made -/
structure Mk (H H1 : Hp) : Prop where
  ext : LamX.ExtN H H1
  tb : ∀ b ps, H b = some (.tbl ps) → ∃ ps', H1 b = some (.tbl ps')
theorem Mk.dom {H H1 : Hp} (m : Mk H H1) : ∀ a, H1 a = none → H a = none := fun a e => by
  cases q : H a with
  | none => rfl
  | some o =>
    by_cases t : ∃ ps, o = .tbl ps
    · obtain ⟨ps, rfl⟩ := t
      obtain ⟨ps', z⟩ := m.tb a ps q
      rw [e] at z; cases z
    · have z := m.ext a o q fun ps z => t ⟨ps, z⟩
      rw [e] at z; cases z
theorem Mk.step {H H1 : Hp} {r : List Addr} (m : Mk H H1) : Step r r H H1 := ⟨fun _ _ h => h, fun _ h => .inl h, fun a o e _ no => m.ext a o e no, m.dom⟩
theorem GOs.notb {r l : List Addr} {W : Addr → Prop} {H : Hp} : ∀ {g : G} {l : List Addr} {a : Addr}, GOs C r W H g l → a ∈ l → ∃ o, H a = some o ∧ ∀ ps, o ≠ .tbl ps
  | _, _, _, .nil, h => by cases h
  | _, _, a, .cons h t, q => by
    rcases List.mem_cons.mp q with e | e
    · subst e
      cases h with
      | dct h => exact ⟨_, h, fun _ z => by cases z⟩
      | ins h => exact ⟨_, h, fun _ z => by cases z⟩
    · exact GOs.notb (l := l) t e
theorem Mk.bs {H H1 : Hp} {r : List Addr} {W : Addr → Prop} {g : G} (m : Mk H H1) (b : Bs C W g r H) (ht : LamX.Tabs C.T H1) : Bs C W g r H1 where
  tabs := ht
  nd := b.nd
  rtr := fun a ha z => b.rtr a ha (m.dom a z)
  wtr := fun a ha z => b.wtr a ha (m.dom a z)
  dis := b.dis
  wnt := fun a ha xs n z => by
    cases q : H a with
    | none => exact b.wtr a ha q
    | some o =>
      by_cases t : ∃ ps, o = .tbl ps
      · obtain ⟨ps, rfl⟩ := t
        obtain ⟨ps', y⟩ := m.tb a ps q
        rw [z] at y; cases y; cases n
      · have y := m.ext a o q fun ps z => t ⟨ps, z⟩
        rw [z] at y
        cases y
        exact b.wnt a ha _ n q
  objs := b.objs.keep m.step.kp fun a ha => by
    obtain ⟨o, e, no⟩ := GOs.notb (l := r) b.objs ha
    rw [e]; exact m.ext a o e no
  gn := b.gn
/-- a lambda as a thing in our hands: its function object is pinned -/
def PreC (C : Cst) (X : Cx) (n : Nat) (r : List Addr) (W : Addr → Prop) (H : Hp) (f : Addr) : Prop :=
  ∃ (c : Addr) (pm ct : Value), H f = some (PinO f (PySem.W.kla_obj "<lambda>" (C.L n).qual (C.L n).params (C.L n).body (C.L n).scope (cloFrom X.env.cells (C.L n).scope.names []) pm c ct)) ∧ f ∉ r ∧ ¬ W f ∧ H c = some (LamX.CodeO c (C.L n).qual) ∧ c ∉ r ∧ ¬ W c
theorem PreC.step {n : Nat} {r r' : List Addr} {W : Addr → Prop} {H H' : Hp} {f : Addr} (s : Step r r' H H') (h : PreC C X n r W H f) : PreC C X n r' W H' f := by
  obtain ⟨c, pm, ct, h1, h2, h3, h4, h5, h6⟩ := h
  have nr : ∀ {a : Addr} {o : HO}, H a = some o → a ∉ r → a ∉ r' := fun {a o} h hr z => by
    rcases s.fresh a z with q | q
    · exact hr q
    · rw [h] at q; cases q
  exact ⟨c, pm, ct, s.ext _ _ h1 h2 pin_ne, nr h1 h2, h3, s.ext _ _ h4 h5 LamX.codeO_ne, nr h4 h5, h6⟩
/-- what the making asks -/
structure LamAt (X : Cx) (C : Cst) (n : Nat) (c P : Addr) (params : Arguments) (body : Expr) (scope : Scope) : Prop where
  tb : LamX.TabB X.base X.mg c P
  code : X.env.code = .ref c
  mem : (P, X.env.qual ++ "<lambda>") ∈ C.T
  uni : ∀ p ∈ C.T, p.1 = P → p.2 = X.env.qual ++ "<lambda>"
  q : (C.L n).qual = X.env.qual ++ "<lambda>"
  pa : (C.L n).params = params
  bo : (C.L n).body = body
  scp : (C.L n).scope = scope
  cap : (C.L n).caps = freeN scope
  has : ∀ y ∈ scope.names, y.2 = .free → X.env.scope.names.lookup y.1 = some .cell ∨ X.env.scope.names.lookup y.1 = some .free
  dfl : defaultsOf params X.env = ([], [])
  fn : ∀ x, X.fn x = true
theorem pe_lambda {n : Nat} {c P : Addr} {params : Arguments} {body : Expr} {scope : Scope} {pos : Pos} (L : LamAt X C n c P params body scope) :
    PE X (.Lambda params body scope pos) (fun σ H Q => LamX.Tabs C.T H ∧ ∀ (f c' : Addr) (pm ct : Value) (H1 : Hp), Mk H H1 → LamX.Tabs C.T H1 → H f = none → H1 f = some (PinO f (PySem.W.kla_obj "<lambda>" (C.L n).qual (C.L n).params (C.L n).body (C.L n).scope (cloFrom X.env.cells (C.L n).scope.names []) pm c' ct)) →
      H1 c' = some (LamX.CodeO c' (C.L n).qual) → ((H c' = none) ∨ ∃ o, H c' = some o ∧ ∀ xs, o ≠ .tbl xs) → Q (.ref f) H1) := by
  refine ⟨fun pins s σ H Q I h => ?_⟩
  obtain ⟨hT, h⟩ := h
  have hfree : ∀ y ∈ scope.names, y.2 = .free → ∃ c, X.env.cells.lookup y.1 = some c := fun y hy e => by
    rcases L.has y hy e with k | k
    · exact I.ok.has _ (.inl k)
    · exact I.ok.has _ (.inr k)
  obtain ⟨ps, hP, ht, ha⟩ := hT _ L.mem
  refine PySem.W.kla_eval L.dfl ?_
  have bP : s.heap.BuiltinsAt X.mg P := L.tb.bm.keeps I.bk
  have hP' : s.heap.get? P = some { cls := .none, data := .fields ps } := I.hok P _ hP
  rw [L.q, L.pa, L.bo, L.scp] at h
  cases hc : codeAmong pos ps.toList with
  | none =>
    refine PySem.W.kla_makeFunction (mg := X.mg) (c := c) (P := P) (ps := ps) (closure_ok hfree) I.ok.glob (I.mod.glob.keeps I.bk) L.code (L.tb.code.keeps I.bk) hP' ht hc L.tb.gP bP fun c' ctv h' tk hx hge hlt hrec htb => ?_
    obtain ⟨c2, oc, vs, t, e2, hoc, hd, hv⟩ := hrec
    cases e2
    have hsz : s.heap.objs.size ≤ h'.objs.size := Nat.le_trans hge (Nat.le_of_lt hlt)
    have nC : H c' = none := I.hok.fresh hge
    have nF : H h'.objs.size = none := I.hok.fresh hsz
    have I1 := LamX.inv_table (t' := tk) (more := #[rawInt pos.line, rawInt pos.col, .ref c']) (h' := h') (q := X.env.qual ++ "<lambda>") I hP (fun b o hb e => hx b o hb e) htb hge ⟨oc, vs, t, hoc, hd, hv⟩
    have new : (h'.push (PySem.W.kla_obj "<lambda>" (X.env.qual ++ "<lambda>") params body scope (cloFrom X.env.cells scope.names []) ((X.mg "__name__").getD .none) c' ctv)).get? h'.objs.size = some (PySem.W.kla_obj "<lambda>" (X.env.qual ++ "<lambda>") params body scope (cloFrom X.env.cells scope.names []) ((X.mg "__name__").getD .none) c' ctv) := Heap.get?_push_size _ rfl
    have I2 := I1.laid (t' := tk) (a := h'.objs.size) (o := PinO h'.objs.size (PySem.W.kla_obj "<lambda>" (X.env.qual ++ "<lambda>") params body scope (cloFrom X.env.cells scope.names []) ((X.mg "__name__").getD .none) c' ctv)) (h' := h'.push (PySem.W.kla_obj "<lambda>" (X.env.qual ++ "<lambda>") params body scope (cloFrom X.env.cells scope.names []) ((X.mg "__name__").getD .none) c' ctv)) (fun b u e => Heap.get?_push_of_some _ e) (Nat.le_refl _) ⟨new, _, new⟩
    have n1 : c' ≠ h'.objs.size := Nat.ne_of_lt hlt
    have n2 : P ≠ h'.objs.size := Nat.ne_of_lt (Nat.lt_of_lt_of_le (Heap.lt_size hP') hsz)
    have nPc : P ≠ c' := ne_of_none hP nC
    have eL : (ps ++ #[rawInt pos.line, rawInt pos.col, .ref c']).toList = ps.toList ++ [rawInt pos.line, rawInt pos.col, .ref c'] := by simp
    have hE : LamX.ExtN H (upd (upd (upd H P (.tbl (ps ++ #[rawInt pos.line, rawInt pos.col, .ref c']))) c' (LamX.CodeO c' (X.env.qual ++ "<lambda>"))) h'.objs.size (PinO h'.objs.size (PySem.W.kla_obj "<lambda>" (X.env.qual ++ "<lambda>") params body scope (cloFrom X.env.cells scope.names []) ((X.mg "__name__").getD .none) c' ctv))) := fun b o e n => by
      rw [upd_ne (ne_of_none e nF), upd_ne (ne_of_none e nC), upd_ne (fun z => n ps (Option.some.inj (e.symm.trans (by rw [z]; exact hP))))]
      exact e
    refine ⟨.ref h'.objs.size, _, I2, rfl, h h'.objs.size c' _ ctv _ ⟨hE, fun b qs e => ?_⟩ (fun p hp => ?_) nF upd_same (by rw [upd_ne n1, upd_same]) (.inl nC)⟩
    · by_cases hb : b = P
      · subst hb
        exact ⟨_, by rw [upd_ne n2, upd_ne nPc, upd_same]⟩
      · exact ⟨qs, by rw [upd_ne (ne_of_none e nF), upd_ne (ne_of_none e nC), upd_ne hb]; exact e⟩
    · by_cases hb : p.1 = P
      · rw [L.uni p hp hb, hb]
        refine ⟨_, by rw [upd_ne n2, upd_ne nPc, upd_same], by rw [eL]; exact PySem.TriplesOk_snoc _ _ _ _ ht, fun p' cv hcv => ?_⟩
        rw [eL] at hcv
        rcases LamX.among_app _ ht hcv with z | z
        · obtain ⟨c0, e1, e2⟩ := ha p' cv z
          exact ⟨c0, e1, hE _ _ e2 LamX.codeO_ne⟩
        · exact ⟨c', z, by rw [upd_ne n1, upd_same]⟩
      · obtain ⟨ps', a1, a2, a3⟩ := hT p hp
        refine ⟨ps', by rw [upd_ne (ne_of_none a1 nF), upd_ne (ne_of_none a1 nC), upd_ne hb]; exact a1, a2, fun p' cv hcv => ?_⟩
        obtain ⟨c0, e1, e2⟩ := a3 p' cv hcv
        exact ⟨c0, e1, hE _ _ e2 LamX.codeO_ne⟩
  | some cv =>
    obtain ⟨c', e, hco⟩ := ha pos cv hc
    subst e
    refine PySem.W.kla_makeFunctionHit (mg := X.mg) (c := c) (P := P) (ps := ps) (closure_ok hfree) I.ok.glob (I.mod.glob.keeps I.bk) L.code (L.tb.code.keeps I.bk) hP' ht hc bP fun ctv h' tk hx hsz => ?_
    have new : (h'.push (PySem.W.kla_obj "<lambda>" (X.env.qual ++ "<lambda>") params body scope (cloFrom X.env.cells scope.names []) ((X.mg "__name__").getD .none) c' ctv)).get? h'.objs.size = some (PySem.W.kla_obj "<lambda>" (X.env.qual ++ "<lambda>") params body scope (cloFrom X.env.cells scope.names []) ((X.mg "__name__").getD .none) c' ctv) := Heap.get?_push_size _ rfl
    have nF : H h'.objs.size = none := I.hok.fresh hsz
    have I2 := I.laid (t' := tk) (a := h'.objs.size) (o := PinO h'.objs.size (PySem.W.kla_obj "<lambda>" (X.env.qual ++ "<lambda>") params body scope (cloFrom X.env.cells scope.names []) ((X.mg "__name__").getD .none) c' ctv)) (h' := h'.push (PySem.W.kla_obj "<lambda>" (X.env.qual ++ "<lambda>") params body scope (cloFrom X.env.cells scope.names []) ((X.mg "__name__").getD .none) c' ctv)) (fun b u e => Heap.get?_push_of_some _ (hx b u e)) hsz ⟨new, _, new⟩
    have hE : ∀ b o, H b = some o → upd H h'.objs.size (PinO h'.objs.size (PySem.W.kla_obj "<lambda>" (X.env.qual ++ "<lambda>") params body scope (cloFrom X.env.cells scope.names []) ((X.mg "__name__").getD .none) c' ctv)) b = some o := fun b o e => by
      rw [upd_ne (ne_of_none e nF)]; exact e
    exact ⟨.ref h'.objs.size, _, I2, rfl, h h'.objs.size c' _ ctv _ ⟨.of hE, fun b qs e => ⟨qs, hE b _ e⟩⟩ (hT.ext hE) nF upd_same (hE _ _ hco) (.inr ⟨_, hco, LamX.codeO_ne⟩)⟩
end
end GT

/-! GtL: a def is called with a lambda as its last argument. -/
namespace GT
open PySem PySem.Spec PyProof.Rows L2 RZ
def capsD : List Nat → Ev → Option (List D)
  | [], _ => some []
  | j :: js, env => match env[j]? with
    | some (.val d) => match capsD js env with
      | some ds => some (d :: ds)
      | none => none
    | _ => none
/-- no lambda gets out -/
def finC : R D → R D
  | .ok d g => if d.nc = true then .ok d g else .stuck
  | .exc c fs g => if D.ncs (fs.map (·.2)) = true then .exc c fs g else .stuck
  | .stuck => .stuck
def mLamCall (n nl : Nat) (js : List Nat) (F : List D → G → R D) (ms : MA) : ME := fun env g => (ms env g).bind fun ds g1 => match capsD js env with
  | some cs => if ds.length + 1 = n then finC (F (ds ++ [.clo nl cs]) g1) else .stuck
  | none => .stuck
def RlAl (C : Cst) (X : Cx) (nl : Nat) (W : Addr → Prop) : List Addr → Hp → List D → List V → Prop := fun r H ds vs => ∃ ws f, vs = ws ++ [.ref f] ∧ RpL C r W H ds ws ∧ PreC C X nl r W H f
def RAl (C : Cst) (X : Cx) (nl : Nat) (Wx : WX) (m : MA) : TA := fun σ H Q => ∃ W env oas g r, Sm C W env oas g r σ H ∧ Post C Wx W r σ H (RlAl C X nl W) Q (m env g)
section
variable {X : Cx} {C : Cst} {Wx : WX}
theorem GOs.noext {r : List Addr} {W : Addr → Prop} {H : Hp} : ∀ {g : G} {l : List Addr} {a : Addr} {φ : Heap → Prop}, GOs C r W H g l → a ∈ l → H a ≠ some (.ext φ)
  | _, _, _, _, .nil, h => by cases h
  | _, _, a, φ, .cons h t, q => fun z => by
    rcases List.mem_cons.mp q with e | e
    · subst e
      cases h with
      | dct h => rw [h] at z; cases z
      | ins h => rw [h] at z; cases z
    · exact GOs.noext t e z
theorem sal_one {nl : Nat} {c P : Addr} {params : Arguments} {body : Expr} {scope : Scope} {pos : Pos} (L : LamAt X C nl c P params body scope) : PA X [.Lambda params body scope pos] (RAl C X nl Wx mNil) :=
  PAm (pa_cons (pe_lambda L) pa_nil) fun σ H Q h => by
    obtain ⟨W, env, oas, g, r, S, Po⟩ := h
    refine ⟨S.bs.tabs, fun f c' pm ct H1 mk ht nf hf hc hc0 => ?_⟩
    have b1 := mk.bs S.bs ht
    have cr : c' ∉ r := fun z => GOs.noext b1.objs z hc
    have cw : ¬ W c' := fun z => b1.wnt c' z _ (.ext _) hc
    exact Po [.ref f] H1 r b1 mk.step ⟨[], f, rfl, .nil, c', pm, ct, hf, S.bs.r0 nf, S.bs.w0 nf, hc, cr, cw⟩
theorem sal_cons {nl : Nat} {e : Expr} {es : List Expr} {m : ME} {ms : MA} (ha : PE X e (RE C Wx m)) (hr : PA X es (RAl C X nl Wx ms)) (hs : starEach (e :: es) X.env = (false, eval e X.env) :: starEach es X.env := by rfl) : PA X (e :: es) (RAl C X nl Wx (mCons m ms)) :=
  PAm (pa_cons ha hr hs) fun σ H Q h => by
    obtain ⟨W, env, oas, g, r, S, P⟩ := h
    refine ⟨W, env, oas, g, r, S, Post.mono (Post.split P) fun v H1 ⟨d, g1, r1, b1, s1, p1, q1⟩ => ⟨W, env, oas, g1, r1, S.step s1 b1, Post.mono (Post.split q1) fun w H2 ⟨e, g2, r2, b2, s2, p2, q2⟩ => ?_⟩⟩
    obtain ⟨ws, f, rfl, p3, p4⟩ := p2
    exact Post.here (d := d :: e) (g := g2) q2 b2 ⟨v :: ws, f, rfl, .cons (p1.step s2) p3, p4⟩
theorem caps_get {pins : List (Addr × Obj)} {σ : L2.St} {H : Hp} {s : Shared} {W : Addr → Prop} {env : Ev} {oas : List (Option Addr)} {g : G} {r : List Addr} (I : Inv X pins σ H s) (S : Sm C W env oas g r σ H) :
    ∀ (cl : List (Str × Addr)) (js : List Nat) (cs : List D), (∀ p ∈ cl, X.env.cells.lookup p.1 = some p.2 ∧ (X.env.scope.names.lookup p.1 = some .cell ∨ X.env.scope.names.lookup p.1 = some .free)) → js.map (fun j => X.N[j]?) = cl.map (fun p => some p.1) → capsD js env = some cs →
      ∃ (us : List Value) (vs : List V), Vals vs us ∧ RpL C r W H cs vs ∧ us.length = cl.length ∧ ∀ (i : Nat) (p : Str × Addr), cl[i]? = some p → ∃ u, us[i]? = some u ∧ s.heap.IsCell p.2 (some u)
  | [], [], cs, _, _, e => by
    simp only [capsD] at e
    cases e
    exact ⟨[], [], .nil, .nil, rfl, fun i p h => by simp at h⟩
  | [], j :: js, _, _, hn, _ => by simp at hn
  | p :: cl, [], _, _, hn, _ => by simp at hn
  | p :: cl, j :: js, cs, hc, hn, e => by
    rw [List.map_cons, List.map_cons, List.cons.injEq] at hn
    unfold capsD at e
    split at e
    · rename_i d hd
      split at e
      · rename_i ds hds
        cases e
        obtain ⟨us, vs, r1, q1, l1, t1⟩ := caps_get I S cl js ds (fun p hp => hc p (List.mem_cons_of_mem _ hp)) hn.2 hds
        obtain ⟨o, v, h1, h2, h3⟩ := S.sl.get hd
        cases h3 with
        | val hv =>
          obtain ⟨k1, k2⟩ := hc p (List.mem_cons_self ..)
          obtain ⟨m, hns, hl⟩ := I.loc
          obtain ⟨u, rv, lk⟩ := hl j p.1 _ hn.1 h2 (k2.elim (fun k => .inr (.inl k)) fun k => .inr (.inr k))
          have cellu : s.heap.IsCell p.2 (some u) := by
            rcases lk with ⟨k, _⟩ | ⟨_, c, e, z⟩
            · have k : X.env.scope.names.lookup p.1 = some .local := k
              rcases k2 with k2 | k2 <;> rw [k2] at k <;> cases k
            · rw [k1] at e
              cases e
              exact z
          refine ⟨u :: us, _ :: vs, .cons rv r1, .cons hv q1, by simp [l1], fun i q hq => ?_⟩
          cases i with
          | zero => simp at hq; subst hq; exact ⟨u, rfl, cellu⟩
          | succ i =>
            obtain ⟨u', z1, z2⟩ := t1 i q (by simpa using hq)
            exact ⟨u', by simpa using z1, z2⟩
      · cases e
    · cases e
theorem se_lamcall {k n nl : Nat} {f c P : Addr} {fd : FuncData} {ps : List Str} {F : List D → G → R D} {x : Str} {e : Expr} {es : List Expr} {p pos : Pos} {ms : MA} {params : Arguments} {body : Expr} {scope : Scope} (js : List Nat) (Fo : FnOk X.prog X.w X.K X.mg X.base (L2.CX X.prog X.w) k f fd ps (spOf C n F)) (hr : Room k X.A) (hm : X.mg x = some (.ref f)) (hk : PySem.W.keepIn X.K (.ref f) = true) (hb : Binds X.K fd ps []) (tk : Takes X Wx)
    (hg : Gl X x) (L : LamAt X C nl c P params body scope) (ha : PA X (e :: es) (RAl C X nl Wx ms)) (hjs : js.map (fun j => X.N[j]?) = (freeN scope).map some := by rfl) (hdb : (x == ("__debug__" : Str)) = false := by decide) (he : starEach (e :: es) X.env = (false, eval e X.env) :: starEach es X.env := by rfl) (hpl : (backTo pos (starEach es X.env)).any (·.1) = false := by rfl) :
    PE X (.Call (.Name x p) (e :: es) [] pos) (RE C Wx (mLamCall n nl js F ms)) := by
  refine ⟨fun pins s σ H Q I h => ?_⟩
  obtain ⟨W, env, oas, g, r, S, Po⟩ := h
  refine wpAny_Call_Name_kw (ld_glob I hg hm ?_ hdb)
  refine PySem.W.callWith_K (h₀ := X.base) I.ok.mod.kin hk (thn (ha.run pos pins s σ H _ I ⟨W, env, oas, g, r, S, Post.split Po⟩) fun us s2 ⟨vs, H2, I2, rvs, ds, g1, r1, b1, st1, p1, q1⟩ => ⟨I2.kIn, ?_⟩) he hpl
  obtain ⟨ws, ff, rfl, pw, pc⟩ := p1
  have S2 := S.step st1 b1
  dsimp only at q1
  split at q1
  · rename_i cs hcs
    split at q1
    · rename_i hlen
      obtain ⟨cl, ecl⟩ : ∃ cl, cl = cloFrom X.env.cells scope.names [] := ⟨_, rfl⟩
      obtain ⟨c', pm, ct, hf, hfr, hfw, hc, hcr, hcw⟩ := pc
      rw [L.scp, ← ecl] at hf
      have hfree : ∀ y ∈ scope.names, y.2 = .free → ∃ c, X.env.cells.lookup y.1 = some c := fun y hy e => by
        rcases L.has y hy e with k | k
        · exact I.ok.has _ (.inl k)
        · exact I.ok.has _ (.inr k)
      have cm : ∀ q ∈ cl, X.env.cells.lookup q.1 = some q.2 ∧ (X.env.scope.names.lookup q.1 = some .cell ∨ X.env.scope.names.lookup q.1 = some .free) := fun ⟨y, a⟩ hq => by
        rw [ecl] at hq
        rcases cloFrom_mem hq with hm | ⟨h1, h2⟩
        · cases hm
        · obtain ⟨c1, hc1⟩ := hfree _ h1 rfl
          have hc1 : X.env.cells.lookup y = some c1 := hc1
          refine ⟨?_, L.has _ h1 rfl⟩
          show X.env.cells.lookup y = some a
          rw [h2, hc1]
          rfl
      have hcl : cl.map (·.1) = (C.L nl).caps := by rw [ecl, clo_names, L.cap]
      have hjs' : js.map (fun j => X.N[j]?) = cl.map (fun q => some q.1) := by
        rw [hjs, ← L.cap, ← hcl, List.map_map]
        rfl
      obtain ⟨cus, cvs, r2, q2, l2, t2⟩ := caps_get I2 S2 cl js cs cm hjs' hcs
      obtain ⟨as, eas⟩ : ∃ as : List Addr, as = cl.map (·.2) := ⟨_, rfl⟩
      have asH : ∀ a ∈ as, H2 a = none ∧ (∃ v, s2.heap.IsCell a v) ∧ a ≠ X.env.locals ∧ X.s_0.heap.objs.size ≤ a := fun a ha => by
        rw [eas] at ha
        obtain ⟨q, hq, rfl⟩ := List.mem_map.mp ha
        have k := (cm q hq).1
        exact ⟨I2.freeC _ _ k, I2.cell _ _ k, I2.cne _ _ k, I2.ok.cab _ _ (L.fn _) k⟩
      obtain ⟨Hq, eHq⟩ : ∃ Hq : Hp, Hq = fun a => if a ∈ as then (s2.heap.get? a).map (PinO a) else H2 a := ⟨_, rfl⟩
      have Hin : ∀ a ∈ as, Hq a = (s2.heap.get? a).map (PinO a) := fun a ha => by rw [eHq]; exact if_pos ha
      have Hout : ∀ a, a ∉ as → Hq a = H2 a := fun a ha => by rw [eHq]; exact if_neg ha
      have gt : ∀ a ∈ as, ∃ o, Hq a = some (PinO a o) ∧ s2.heap.get? a = some o := fun a ha => by
        obtain ⟨_, ⟨v, o, ho, _⟩, _⟩ := asH a ha
        exact ⟨o, by rw [Hin a ha, ho]; rfl, ho⟩
      have eun : unp as Hq = H2 := by
        funext a
        by_cases z : a ∈ as
        · rw [unp_in z, (asH a z).1]
        · rw [unp_out z, Hout a z]
      have pk : PinsOk Hq as := fun a ha => let ⟨o, e1, _⟩ := gt a ha; ⟨o, e1⟩
      have nf : ∀ a ∈ as, a ∉ frs X.stack := fun a ha z => by
        obtain ⟨_, _, n1, n2⟩ := asH a ha
        rcases List.mem_cons.mp (I2.stkSub a z) with e | e
        · exact n1 e
        · obtain ⟨_, o, ho, _⟩ := I2.ok.funs.mem e
          exact absurd (Nat.lt_of_lt_of_le (Heap.lt_size ho) n2) (Nat.lt_irrefl _)
      have nb : ∀ a ∈ as, X.base.get? a = none := fun a ha => Heap.get?_none_of_le (Nat.le_trans I2.ok.bsz (asH a ha).2.2.2)
      have e0 : Env0 X.prog X.w X.K X.mg X.base X.A X.stack s2 Hq := env0_pin (as := as) (by rw [eun]; exact I2.env0) gt nf nb
      have gr : ∀ a o, H2 a = some o → Hq a = some o := fun a o e => by
        rw [Hout a fun z => ?_]
        · exact e
        · rw [(asH a z).1] at e; cases e
      have bq := b1.grow gr
      have sg : Step r1 r1 H2 Hq := step_grow gr
      have hclo : Rp C r1 W Hq (.clo nl cs) (.ref ff) := by
        refine .clo (us := cus) (vs := cvs) (c := c') (pm := pm) (ct := ct) (cl := cl) (by rw [L.scp]; exact gr _ _ hf) hfr hfw (gr _ _ hc) hcr hcw hcl l2 (fun x y a h1 h2 => ?_) (fun i q hq => ?_) r2 (q2.step sg)
        · exact I2.ok.inj x y a (cm _ (PySem.mem_of_lookup h1)).1 (cm _ (PySem.mem_of_lookup h2)).1
        · obtain ⟨u, z1, o, z2, z3⟩ := t2 i q hq
          have hm : q.2 ∈ as := by rw [eas]; exact List.mem_map.mpr ⟨q, List.mem_of_getElem? hq, rfl⟩
          have hn := (asH _ hm).1
          exact ⟨o, u, by rw [Hin _ hm, z2]; rfl, b1.r0 hn, b1.w0 hn, z1, z3⟩
      have hsp : spOf C n F (ws ++ [.ref ff]) Hq (fun v H' => PinsOk H' as → Q v (unp as H')) (fun cls d H' => PinsOk H' as → WE Wx σ cls d (unp as H')) := by
        refine ⟨r1, W, g1, ds ++ [.clo nl cs], bq, (pw.step sg).append (.cons hclo .nil), by rw [List.length_append]; exact hlen, ?_⟩
        have out : ∀ {r' : List Addr} {H' : Hp}, Step r1 r' Hq H' → ∀ a ∈ as, a ∉ r' ∧ ¬ W a := fun {r' H'} st a ha => ⟨fun z => by
          rcases st.fresh a z with y | y
          · exact b1.rtr a y (asH a ha).1
          · exact pk.no y ha, b1.w0 (asH a ha).1⟩
        revert q1
        cases F (ds ++ [.clo nl cs]) g1 with
        | stuck => exact fun q1 => q1
        | ok d g' =>
          intro q1 v H' r' b' st' q' pk'
          have q1 : Post C Wx W r1 σ H2 (RlE C W) Q (if d.nc = true then .ok d g' else .stuck) := q1
          by_cases hn : d.nc = true
          · rw [if_pos hn] at q1
            have st2 := st'.unpS (as := as)
            rw [eun] at st2
            exact q1 v (unp as H') r' (b'.unpB pk' (out st')) st2 (q'.unp pk' hn)
          · rw [if_neg hn] at q1
            exact q1.elim
        | exc cc fs g' =>
          intro q1 cl' dx H' r' b' st' q' pk'
          have q1 : Post C Wx W r1 σ H2 (RlE C W) Q (if D.ncs (fs.map (·.2)) = true then .exc cc fs g' else .stuck) := q1
          by_cases hn : D.ncs (fs.map (·.2)) = true
          · rw [if_pos hn] at q1
            have st2 := st'.unpS (as := as)
            rw [eun] at st2
            exact q1 cl' dx (unp as H') r' (b'.unpB pk' (out st')) st2 (q'.unp pk' hn)
          · rw [if_neg hn] at q1
            exact q1.elim
      have hl : us.length = ps.length := by rw [← rvs.length]; exact Fo.len _ _ _ _ hsp
      have bnd := hb s2 us I2.kIn (by rw [List.append_nil]; exact hl)
      rw [List.append_nil] at bnd
      refine wpAny_call (codeAny_mono (Fo.run X.A X.stack s2 Hq ⟨us, []⟩ us (ws ++ [.ref ff]) _ _ hr e0 bnd rvs hsp) fun rr s' hq => ?_)
      have hq' := cr_up (Q := Q) (E := WE Wx σ) pk nf e0.hok (fun v H' z q => q z) (fun cc d H' z q => q z) hq
      rw [eun] at hq'
      cases rr with
      | error e => exact passAt tk σ pins H2 s2 e s' I2 hq'
      | ok fl =>
        cases fl with
        | ret u => exact I2.after hq'
        | next => exact False.elim hq'
        | brk => exact False.elim hq'
        | cont => exact False.elim hq'
    · exact q1.elim
  · exact q1.elim
end
/-- a def whose code object is known -/
def AtC (K : PySem.W.Frag) (mg : Str → Option Value) (x : Str) (st : Stmt) (c : Addr) : Prop :=
  ∃ (f : Addr) (oc : Value) (od : Option Addr) (kV doc pm : Value) (an : Option Addr) (ct : Value) (osl : Array (Option Value)),
    K.lookup f = some ⟨oc, od, .func (PySem.W.fnOf x x (defArgs st) (defBody st) (defScope st) .none kV doc pm an (.ref c) ct), osl⟩ ∧ PySem.W.codeIn K (.ref c) x = true ∧ PySem.W.keepIn K (.ref f) = true ∧ mg x = some (.ref f)
theorem def_okC {P : Program} {w : World} {base : Heap} {C : Cst} {x : Str} {st : Stmt} {c : Addr} {N ps : List Str} {k : Nat} {m : MS} (F : AtC C.K C.mg x st c) (S : FnScope N ps (defScope st))
    (hb : ∀ (kV doc pm : Value) (an : Option Addr) (cdv ct : Value) (us : List Value), us.length = ps.length → bindArgs (PySem.W.fnOf x x (defArgs st) (defBody st) (defScope st) .none kV doc pm an cdv ct) ⟨us, []⟩ = pure (ps.zip us))
    (hbody : ∀ (f : Addr) (A : Around) (outer : List Env) (s : Shared) (H : Hp) (E : XK), Room k (A.deeper (envOfC x (defScope st) s.heap.objs.size f (.ref c))) →
      PSs (cxOf (L2.CX P w) P w C.K C.mg base N x (defScope st) f (.ref c) A outer s H E) (defBody st) (RS C (fun cls d _ H' => E cls d H') m)) : Cal P w base C x (k + 1) ps (mDef N.length m) := by
  obtain ⟨f, oc, od, kV, doc, pm, an, ct, osl, lk, hcd, hkp, hmg⟩ := F
  refine ⟨f, _, fn_of lk hcd S (fun vs H Q E h => spOf_len h) (fun A outer s H vs Q E hr h => ⟨_, hbody f A outer s H E hr, ?_⟩), hmg, hkp, .all (hb kV doc pm an (.ref c) ct)⟩
  obtain ⟨r, W, g, ds, b, q, hl, Po⟩ := h
  obtain ⟨oas, h1, h2⟩ := sls_start (C := C) (r := r) (W := W) (H := H) (N.length - vs.length) q
  have sub : ∀ a, Wf oas W a → W a := fun a z => z.elim (fun z => absurd z (h2 a)) id
  have hle : ds.length = vs.length := q.length
  have anti : Kp r r W (Wf oas W) H H := ⟨fun _ _ h => h, fun a q => q.elim .inl fun q => .inr (.inl (sub a q)), fun _ _ h _ _ _ => h, fun _ h => h⟩
  refine ⟨H, r, W, ev0 N.length ds, oas, g, r, ⟨⟨b.anti sub, ?_, fun a z => .inl z, fun i j a z _ => absurd (List.mem_of_getElem? z) (h2 a)⟩, Step.refl _ _, fun a z => absurd z (h2 a), fun a z => b.wtr a z⟩, ?_⟩
  · unfold ev0 L2.start
    rw [hle]
    exact h1.keep anti fun a z => absurd z (h2 a)
  · unfold mDef at Po
    revert Po
    cases m (ev0 N.length ds) g with
    | stuck => exact fun Po => Po
    | exc c fs g1 => exact fun Po cl dx σ' H' r' b s q => Po cl dx H' r' b s q
    | ok p g1 =>
      obtain ⟨fl, e⟩ := p
      cases fl with
      | nx => exact fun Po σ' H' oas' r' S' _ => Po .non H' r' (S'.sm.bs.anti wo_wf) S'.st .non
      | rt d => exact fun Po => Po
      | bk => exact fun Po => Po.elim
      | ct => exact fun Po => Po.elim
end GT

/-! GtM: comprehensions of two clauses. -/
namespace GT
open PySem PySem.Spec PyProof.Rows L2 RZ
theorem loop_it {J : It} {n : Nat} {Gd : Hp → Prop} {Y : Nat → Hp → V → Hp → Prop} (w : Walk J n Gd Y) {H0 : Hp} {Fin : Hp → Prop} {Body : V → Hp → (Hp → Prop) → Prop} (Pv : Nat → Hp → Prop) (h0 : Pv 0 H0) (hG : ∀ i H, i ≤ n → Pv i H → Gd H)
    (hs : ∀ i x H H', i < n → Pv i H → Y i H x H' → Body x H' (Pv (i + 1))) (hd : ∀ H, Pv n H → Fin H) :
    ∃ W : Nat → Nat → Hp → Prop, (∃ m, W 0 m H0) ∧ ∀ i m H, W i m H → (J.stop i H ∧ Fin H) ∨ (J.go i H ∧ ∃ Nx : Hp → Prop, (∀ H', Nx H' → ∃ m', m' < m ∧ W (i + 1) m' H') ∧ ∀ x H', J.yld i H x H' → Body x H' Nx) := by
  refine ⟨fun i m H => m = n - i ∧ i ≤ n ∧ Pv i H, ⟨n, by simp, Nat.zero_le _, h0⟩, ?_⟩
  rintro i m H ⟨rfl, hi, p⟩
  have q := hG i H hi p
  by_cases hlt : i < n
  · exact .inr ⟨w.goes i H hlt q, Pv (i + 1), fun H' p' => ⟨n - (i + 1), by omega, rfl, hlt, p'⟩, fun x H' y => hs i x H H' hlt p (w.yields i H x H' hlt q y)⟩
  · have e : i = n := by omega
    subst e
    exact .inl ⟨w.stops H q, hd H p⟩
/-- the inner loop -/
def compI (bind : Bnd) (mt : MT) (me : ME) (env : Ev) : List D → List D → G → R (List D)
  | [], acc, g => .ok acc g
  | d :: ds, acc, g => match bind d env with
    | none => .stuck
    | some env1 => (mt env1 g).nox.bind fun b g1 => if b then (me env1 g1).nox.bind fun y g2 => if acc.length < 1000000 then compI bind mt me env ds (acc ++ [y]) g2 else .stuck else compI bind mt me env ds acc g1
/-- the outer loop -/
def compO (bind : Bnd) (mt : MT) (mi1 : MI) (bind1 : Bnd) (mt1 : MT) (me : ME) (vs1 : List Nat) (env : Ev) : List D → List D → G → R (List D)
  | [], acc, g => .ok acc g
  | d :: ds, acc, g => match bind d env with
    | none => .stuck
    | some env1 => (mt env1 g).nox.bind fun b g1 => if b then (mi1 env1 g1).nox.bind fun ds1 g2 => (compI bind1 mt1 me (wipeE env1 vs1) ds1 acc g2).bind fun acc' g3 => compO bind mt mi1 bind1 mt1 me vs1 env ds acc' g3 else compO bind mt mi1 bind1 mt1 me vs1 env ds acc g1
def mComp2 (vs vs1 : List Nat) (mi : MI) (bind : Bnd) (mt : MT) (mi1 : MI) (bind1 : Bnd) (mt1 : MT) (me : ME) : Ev → G → R (List D) := fun env g => (mi env g).bind fun ds g1 => compO bind mt mi1 bind1 mt1 me vs1 (wipeE env vs) ds [] g1
theorem drop_at {ds : List D} {i : Nat} {d : D} (h : ds[i]? = some d) : ds.drop i = d :: ds.drop (i + 1) := by
  obtain ⟨hlt, e⟩ := List.getElem?_eq_some_iff.mp h
  rw [List.drop_eq_getElem_cons hlt, e]
section
variable {X : Cx} {C : Cst} {Wx : WX}
theorem re_comp2 {vs vs1 is is1 : List Nat} {mi mi1 : MI} {bind bind1 : Bnd} {mt mt1 : MT} {me : ME} {tg tg1 : TG} (hb : BindS C is tg bind) (hi : ∀ i ∈ is, i ∈ vs) (hb1 : BindS C is1 tg1 bind1) (hi1 : ∀ i ∈ is1, i ∈ vs1) {σ : L2.St} {H : Hp} {Q : VK} (h : RN C Wx (mComp2 vs vs1 mi bind mt mi1 bind1 mt1 me) σ H Q) :
    tLc2 (RI C Wx mi) tg (RT C W0 mt) (RI C W0 mi1) tg1 (RT C W0 mt1) (RE C W0 me) vs vs1 σ H Q := by
  obtain ⟨W, env, oas, g, r, S, P⟩ := h
  refine ⟨W, env, oas, g, r, S, ?_⟩
  unfold mComp2 at P
  revert P
  cases hmi : mi env g with
  | exc c fs g1 => exact fun P => P
  | stuck => exact fun P => P
  | ok ds g1 =>
    intro P J H1 r1 b1 s1 ⟨hz, Gd, Y, w, st, yl⟩ Dn hD
    have S1 := S.step s1 b1
    have hDw : ¬ W Dn := b1.w0 hD
    have hD0 : H Dn = none := s1.dom _ hD
    have P : PostN C Wx W r σ H (Ct C) Q (compO bind mt mi1 bind1 mt1 me vs1 (wipeE env vs) ds [] g1) := P
    obtain ⟨oas1, Sw, ho1⟩ := (S1.more (p := Dn) (o := .lst []) hD (fun z => nomatch z)).wipe vs
    have nD : some Dn ∉ oas1 := fun z => b1.wtr Dn (S1.own Dn (ho1 _ z)) hD
    refine loop_it w (fun i H' => ∃ r' g' ys acc, Sm C (fun a => a = Dn ∨ W a) (wipeE env vs) oas1 g' r' (L2.wipe σ vs) H' ∧ Kp r1 r' W (fun a => a = Dn ∨ W a) H1 H' ∧ Step r r' H H' ∧ H' Dn = some (.lst acc) ∧ acc.length ≤ sizeLine ∧ RpL C r' (fun a => a = Dn ∨ W a) H' ys acc ∧
        PostN C Wx W r σ H (Ct C) Q (compO bind mt mi1 bind1 mt1 me vs1 (wipeE env vs) (ds.drop i) ys g')) ?_ ?_ ?_ ?_
    · exact ⟨r1, g1, [], [], Sw, Kp.more hD, s1.trans (Step.upd hD), upd_same, Nat.zero_le _, .nil, P⟩
    · rintro i H' _ ⟨r', g', ys, acc, _, k, _⟩
      exact st _ _ _ k
    · rintro i x H' H'' hi' ⟨r', g', ys, acc, Sm1, k, sr, ha, hla, qa, PP⟩ y
      obtain ⟨d, hd, b2, s2, q2⟩ := yl i r' _ g' H' x H'' k Sm1.bs hi' y
      have S2 := Sm1.step s2 b2
      have ha2 : H'' Dn = some (.lst acc) := s2.ext Dn _ ha (fun z => Sm1.bs.dis Dn z (.inl rfl)) (fun _ z => by cases z)
      rw [drop_at hd, compO] at PP
      cases hbd : bind d (wipeE env vs) with
      | none => rw [hbd] at PP; exact PP.elim
      | some env1 =>
        rw [hbd] at PP
        refine hb _ _ _ _ _ _ _ d x env1 _ S2 q2 hbd fun σ2 oas2 S3 ho3 hw3 => ⟨?_, ?_⟩
        · rw [hw3 vs hi, wipe_wipe]
        · have nD3 : some Dn ∉ oas2 := fun z => nD (ho3 _ z)
          refine ⟨_, env1, oas2, g', r', S3, ?_⟩
          dsimp only at PP
          revert PP
          cases hmt : mt env1 g' with
          | exc c fs g4 => exact fun PP => PP.elim
          | stuck => exact fun PP => PP.elim
          | ok b g4 =>
            intro PP c H4 r4 b4 s4 ec
            subst ec
            have S4 := S3.step s4 b4
            have So4 := S2.step s4 b4
            have k4 : Kp r1 r4 W (fun a => a = Dn ∨ W a) H1 H4 := (k.trans s2.kp).trans s4.kp
            have ha4 : H4 Dn = some (.lst acc) := s4.ext Dn _ ha2 (fun z => S3.bs.dis Dn z (.inl rfl)) (fun _ z => by cases z)
            have sr4 : Step r r4 H H4 := (sr.trans s2).trans s4
            cases c with
            | false => exact iteF ⟨r4, g4, ys, acc, So4, k4, sr4, ha4, hla, (qa.step s2).step s4, PP⟩
            | true =>
              refine iteT ⟨_, env1, oas2, g4, r4, S4, ?_⟩
              simp only [R.nox, R.bind, if_true] at PP
              revert PP
              cases hmi1 : mi1 env1 g4 with
              | exc c fs g5 => exact fun PP => PP.elim
              | stuck => exact fun PP => PP.elim
              | ok ds1 g5 =>
                intro PP J1 H5 r5 b5 s5 ⟨hz1, Gd1, Y1, w1, st1, yl1⟩
                have S5 := S4.step s5 b5
                have So5 := So4.step s5 b5
                have k5 := k4.trans s5.kp
                have ha5 : H5 Dn = some (.lst acc) := s5.ext Dn _ ha4 (fun z => S4.bs.dis Dn z (.inl rfl)) (fun _ z => by cases z)
                have sr5 : Step r r5 H H5 := sr4.trans s5
                obtain ⟨oas3, Sw5, ho5⟩ := S5.wipe vs1
                have nD5 : some Dn ∉ oas3 := fun z => nD3 (ho5 _ z)
                dsimp only at PP
                refine loop_it w1 (fun j H' => ∃ r' g' ys acc, Sm C (fun a => a = Dn ∨ W a) (wipeE env1 vs1) oas3 g' r' (L2.wipe σ2 vs1) H' ∧ Sm C (fun a => a = Dn ∨ W a) (wipeE env vs) oas1 g' r' (L2.wipe σ vs) H' ∧ Kp r1 r' W (fun a => a = Dn ∨ W a) H1 H' ∧ Kp r5 r' (fun a => a = Dn ∨ W a) (fun a => a = Dn ∨ W a) H5 H' ∧ Step r r' H H' ∧ H' Dn = some (.lst acc) ∧ acc.length ≤ sizeLine ∧ RpL C r' (fun a => a = Dn ∨ W a) H' ys acc ∧
                  PostN C Wx W r σ H (Ct C) Q ((compI bind1 mt1 me (wipeE env1 vs1) (ds1.drop j) ys g').bind fun acc' g3 => compO bind mt mi1 bind1 mt1 me vs1 (wipeE env vs) (ds.drop (i + 1)) acc' g3)) ?_ ?_ ?_ ?_
                · exact ⟨r5, g5, ys, acc, Sw5, So5, k5, Kp.refl _ _ _, sr5, ha5, hla, ((qa.step s2).step s4).step s5, PP⟩
                · rintro j H' _ ⟨r', g', ys, acc, _, _, _, kk, _⟩
                  exact st1 _ _ _ kk
                · rintro j x1 HA HB hj ⟨r', g', ys, acc, SmA, SoA, kA, kkA, srA, haA, hlA, qA, PA⟩ y1
                  obtain ⟨d1, hd1, b6, s6, q6⟩ := yl1 j r' _ g' HA x1 HB kkA SmA.bs hj y1
                  have S6 := SmA.step s6 b6
                  have So6 := SoA.step s6 b6
                  have ha6 : HB Dn = some (.lst acc) := s6.ext Dn _ haA (fun z => SmA.bs.dis Dn z (.inl rfl)) (fun _ z => by cases z)
                  rw [drop_at hd1, compI] at PA
                  cases hbd1 : bind1 d1 (wipeE env1 vs1) with
                  | none => rw [hbd1] at PA; exact PA.elim
                  | some env2 =>
                    rw [hbd1] at PA
                    refine hb1 _ _ _ _ _ _ _ d1 x1 env2 _ S6 q6 hbd1 fun σ3 oas4 S7 ho7 hw7 => ⟨?_, ?_⟩
                    · rw [hw7 vs1 hi1, wipe_wipe]
                    · have nD7 : some Dn ∉ oas4 := fun z => nD5 (ho7 _ z)
                      refine ⟨_, env2, oas4, g', r', S7, ?_⟩
                      dsimp only at PA
                      revert PA
                      cases hmt1 : mt1 env2 g' with
                      | exc c fs g4 => exact fun PP => PP.elim
                      | stuck => exact fun PP => PP.elim
                      | ok b g8 =>
                        intro PA c H8 r8 b8 s8 ec
                        subst ec
                        have S8 := S7.step s8 b8
                        have ha8 : H8 Dn = some (.lst acc) := s8.ext Dn _ ha6 (fun z => S7.bs.dis Dn z (.inl rfl)) (fun _ z => by cases z)
                        have k8 := (kA.trans s6.kp).trans s8.kp
                        have kk8 := (kkA.trans s6.kp).trans s8.kp
                        have sr8 := (srA.trans s6).trans s8
                        cases c with
                        | false => exact iteF ⟨r8, g8, ys, acc, (SmA.step s6 b6).step s8 b8, So6.step s8 b8, k8, kk8, sr8, ha8, hlA, (qA.step s6).step s8, PA⟩
                        | true =>
                          refine iteT ⟨_, env2, oas4, g8, r8, S8, ?_⟩
                          simp only [R.nox, R.bind, if_true] at PA
                          revert PA
                          cases hme : me env2 g8 with
                          | exc c fs g5 => exact fun PP => PP.elim
                          | stuck => exact fun PP => PP.elim
                          | ok yv g9 =>
                            intro PA v H9 r9 b9 s9 q9
                            have ha9 : H9 Dn = some (.lst acc) := s9.ext Dn _ ha8 (fun z => S8.bs.dis Dn z (.inl rfl)) (fun _ z => by cases z)
                            dsimp only at PA
                            by_cases hlen : ys.length < 1000000
                            · rw [if_pos hlen] at PA
                              have hl9 : acc.length < 1000000 := by rw [← qA.length]; exact hlen
                              refine ⟨acc, ha9, mil' hl9, r9, g9, ys ++ [yv], acc ++ [v], ?_, ?_, ?_, ?_, ?_, upd_same, by rw [List.length_append]; exact mil hl9, ?_, PA⟩
                              · exact (((SmA.step s6 b6).step s8 b8).step s9 b9).write (.inl rfl) ha9 nD5 (fun z => nomatch z)
                              · exact ((So6.step s8 b8).step s9 b9).write (.inl rfl) ha9 nD (fun z => nomatch z)
                              · exact (k8.trans s9.kp).trans (Kp.write (.inl rfl))
                              · exact (kk8.trans s9.kp).trans (Kp.write (.inl rfl))
                              · exact (sr8.trans s9).newer hD0
                              · exact ((((qA.step s6).step s8).step s9).append (.cons q9 .nil)).keep (Kp.write (.inl rfl))
                            · rw [if_neg hlen] at PA
                              exact PA.elim
                · rintro H' ⟨r', g', ys, acc, _, SoA, kA, _, srA, haA, hlA, qA, PA⟩
                  rw [List.drop_length] at PA
                  exact ⟨r', g', ys, acc, SoA, kA, srA, haA, hlA, qA, PA⟩
    · rintro H' ⟨r', g', ys, acc, Sm1, k, sr, ha, hla, qa, PP⟩
      rw [List.drop_length] at PP
      exact PP Dn H' r' Sm1.bs sr hD0 hDw ⟨acc, ha, hla, qa⟩
theorem sn_comp2 {elt tg iter tg1 iter1 : Expr} {ifs ifs1 : List Expr} {scope : Scope} {own : List (Str × Nat)} {is vs1 is1 : List Nat} {pos : Pos} {mi mi1 : MI} {bind bind1 : Bnd} {mt mt1 : MT} {me : ME} {tgt tgt1 : TG} (hc : X.calm = true) (hN : X.N.Nodup) (hi : PI X tg iter (RI C Wx mi)) (ok : BlkOk X.N X.env.scope scope own) (hv : ∀ i ∈ vs1, i ∈ own.map (·.2)) (hb : BindS C is tgt bind) (his : ∀ i ∈ is, i ∈ own.map (·.2)) (hb1 : BindS C is1 tgt1 bind1) (his1 : ∀ i ∈ is1, i ∈ vs1)
    (hg : ∀ (s : Shared) (H : Hp) (C' : Addr) (cl : List (Str × Addr)) (fp : List Addr), PG (X.blk s H scope (compEnvC scope cl C' X.env) fp) tg tgt) (ht : ∀ (s : Shared) (H : Hp) (C' : Addr) (cl : List (Str × Addr)) (fp : List Addr), PTs (X.blk s H scope (compEnvC scope cl C' X.env) fp) ifs (RT C W0 mt))
    (hi1 : ∀ (s : Shared) (H : Hp) (C' : Addr) (cl : List (Str × Addr)) (fp : List Addr), PI (X.blk s H scope (compEnvC scope cl C' X.env) fp) tg1 iter1 (RI C W0 mi1))
    (hg1 : ∀ (s : Shared) (H : Hp) (C' : Addr) (cl : List (Str × Addr)) (fp : List Addr), PG (X.blk s H scope (compEnvC scope cl C' X.env) fp) tg1 tgt1) (ht1 : ∀ (s : Shared) (H : Hp) (C' : Addr) (cl : List (Str × Addr)) (fp : List Addr), PTs (X.blk s H scope (compEnvC scope cl C' X.env) fp) ifs1 (RT C W0 mt1))
    (he : ∀ (s : Shared) (H : Hp) (C' : Addr) (cl : List (Str × Addr)) (fp : List Addr), PE (X.blk s H scope (compEnvC scope cl C' X.env) fp) elt (RE C W0 me)) (hs : ∀ x, foldedSetIterable iter X.env x = pure x := by intro _; rfl) (hs1 : ∀ env x, foldedSetIterable iter1 env x = pure x := by intro _ _; rfl) :
    PE X (.ListComp elt [⟨tg, iter, ifs, 0⟩, ⟨tg1, iter1, ifs1, 0⟩] scope pos) (RN C Wx (mComp2 (own.map (·.2)) vs1 mi bind mt mi1 bind1 mt1 me)) := PEm (pe_lc2 hc hN hi ok hv hg ht hi1 hg1 ht1 he hs hs1) fun _ _ _ h => re_comp2 hb his hb1 his1 h
theorem ss_comp2 {i : Nat} {y : Str} {py : Pos} {elt tg iter tg1 iter1 : Expr} {ifs ifs1 : List Expr} {scope : Scope} {own : List (Str × Nat)} {is vs1 is1 : List Nat} {pos spos : Pos} {mi mi1 : MI} {bind bind1 : Bnd} {mt mt1 : MT} {me : ME} {tgt tgt1 : TG} (hc : X.calm = true) (hN : X.N.Nodup) (hy : X.N[i]? = some y) (hyl : X.env.scope.names.lookup y = some .local)
    (hsw : swapsWith (.ListComp elt [⟨tg, iter, ifs, 0⟩, ⟨tg1, iter1, ifs1, 0⟩] scope pos) (some (.Name y py)) spos.line X.env = pure true) (hi : PI X tg iter (RI C Wx mi)) (ok : BlkOk X.N X.env.scope scope own) (hv : ∀ i ∈ vs1, i ∈ own.map (·.2)) (hb : BindS C is tgt bind) (his : ∀ i ∈ is, i ∈ own.map (·.2)) (hb1 : BindS C is1 tgt1 bind1) (his1 : ∀ i ∈ is1, i ∈ vs1)
    (hg : ∀ (s : Shared) (H : Hp) (C' : Addr) (cl : List (Str × Addr)) (fp : List Addr), PG (X.blk s H scope (compEnvC scope cl C' X.env) fp) tg tgt) (ht : ∀ (s : Shared) (H : Hp) (C' : Addr) (cl : List (Str × Addr)) (fp : List Addr), PTs (X.blk s H scope (compEnvC scope cl C' X.env) fp) ifs (RT C W0 mt))
    (hi1 : ∀ (s : Shared) (H : Hp) (C' : Addr) (cl : List (Str × Addr)) (fp : List Addr), PI (X.blk s H scope (compEnvC scope cl C' X.env) fp) tg1 iter1 (RI C W0 mi1))
    (hg1 : ∀ (s : Shared) (H : Hp) (C' : Addr) (cl : List (Str × Addr)) (fp : List Addr), PG (X.blk s H scope (compEnvC scope cl C' X.env) fp) tg1 tgt1) (ht1 : ∀ (s : Shared) (H : Hp) (C' : Addr) (cl : List (Str × Addr)) (fp : List Addr), PTs (X.blk s H scope (compEnvC scope cl C' X.env) fp) ifs1 (RT C W0 mt1))
    (he : ∀ (s : Shared) (H : Hp) (C' : Addr) (cl : List (Str × Addr)) (fp : List Addr), PE (X.blk s H scope (compEnvC scope cl C' X.env) fp) elt (RE C W0 me)) (hs : ∀ x, foldedSetIterable iter X.env x = pure x := by intro _; rfl) (hs1 : ∀ env x, foldedSetIterable iter1 env x = pure x := by intro _ _; rfl) :
    PS X (.Assign [.Name y py] (.ListComp elt [⟨tg, iter, ifs, 0⟩, ⟨tg1, iter1, ifs1, 0⟩] scope pos) spos) (tAsg (RN C Wx (mComp2 (own.map (·.2)) vs1 mi bind mt mi1 bind1 mt1 me)) (gName i)) :=
  PSm' (ps_setLc2 hc hN hy hyl hsw hi ok hv hg ht hi1 hg1 ht1 he hs hs1) fun En σ H h => re_comp2 hb his hb1 his1 h
end
end GT

/-! GtN: dict comprehensions with keys of any kind (follows HandS.DictComp, the put by DPut). -/
namespace GT
open PySem PySem.Spec PyProof.Rows L2 RZ
theorem d_dictSetG {X : Cx} {pins : List (Addr × Obj)} {σ : L2.St} {H H' : Hp} {s : Shared} {E : Value → Shared → Prop} {D : Addr} {y v : V} {u r : Value} {Q : Unit → Shared → Prop} (hu : X.A.units < cLine) (I : Inv X pins σ H s) (g : DPut H D y v H')
    (ry : RelV y u) (rv : RelV v r) (h : ∀ s', Inv X pins σ H' s' → Q () s') : wpAny (model X.prog X.w) X.A (dictSet D u r) Q E s := by
  rcases g with ⟨kvs, k, e, ey, l, eH⟩ | ⟨kvs, k, b, e, ey, eb, l, eH⟩
  · subst ey eH
    exact d_dictSet I e l ry rv h
  · subst ey eH
    cases (show u = Value.ref b from ry)
    obtain ⟨z, hd, xs, rel, dd⟩ := dt_of I.hok e
    have hz : xs.length ≤ sizeLine := by rw [← Paired.length rel]; exact z
    have hl : (putK kvs k v).length ≤ sizeLine := by have := length_putK kvs k v; omega
    refine wpAny_dictSet_heap (knd := tupleKind (mixKind X.prog X.w)) (hsz := hz) hu (key_of I.hok eb) dd fun h' dd' hs => h _ ?_
    obtain ⟨q, es, ep, hq, h2, h3, h4, _, h5⟩ := dd'
    refine d_write I (by rw [e]; exact True.intro) hs ⟨q, hq⟩ ⟨hl, hd, _, (rel.put k eb rv).keeps fun c ys ec => ?_, q, es, ep, hq, h2, h3, h4, h5⟩
    rw [upd_ne (ne_of ec e (fun z => nomatch z))]
    exact ec
/-- an empty dict, of either kind -/
inductive E0 : HO → Prop
  | k : E0 (.dK [])
  | t : E0 (.dT [])
theorem E0.ok {o : HO} (e : E0 o) {P : Program} {w : World} {H : Hp} (h : Heap) (hb : sysModules < h.objs.size) : ObjOk P w H (h.push { cls := .type "dict", data := .dict #[] }) h.objs.size o := by
  cases e with
  | k => exact dk_empty h hb
  | t => exact dt_empty h hb
def tDcG (o0 : HO) (wi : TI) (g : TG) (tt : TT) (tk tv : TE) (vs : List Nat) : TE := fun σ H Q => wi σ H fun J H1 => ∀ D, H1 D = none → ∃ W : Nat → Nat → Hp → Prop, (∃ m, W 0 m (upd H1 D o0)) ∧ ∀ i m H, W i m H →
  (J.stop i H ∧ Q (.ref D) H) ∨ (J.go i H ∧ ∃ Nx : Hp → Prop, (∀ H', Nx H' → ∃ m', m' < m ∧ W (i + 1) m' H') ∧ ∀ x H', J.yld i H x H' → g x (wipe σ vs) H' fun σ2 H2 => wipe σ2 vs = wipe σ vs ∧ tt σ2 H2 fun b H3 =>
    if b = true then tk σ2 H3 fun y H4 => tv σ2 H4 fun z H5 => ∃ H6, DPut H5 D y z H6 ∧ Nx H6 else Nx H3)
section
variable {X : Cx}
theorem dcG_core {o0 : HO} {pins : List (Addr × Obj)} {s : Shared} {σ : L2.St} {H : Hp} {Q : VK} {kx vx tg iter : Expr} {ifs : List Expr} {scope : Scope} {own : List (Str × Nat)} {pos pos' : Pos} {wi : TI} {g : TG} {tt : TT} {tk tv : TE} {use : Option (Value → Sem Unit)} {Qf : Value → Shared → Prop}
    (h0 : E0 o0) (hu : X.A.units < cLine) (hc : X.calm = true) (hN : X.N.Nodup) (I : Inv X pins σ H s) (hi : PI X tg iter wi) (ok : BlkOk X.N X.env.scope scope own)
    (hg : ∀ (s : Shared) (H : Hp) (C : Addr) (cl : List (Str × Addr)) (fp : List Addr), PG (X.blk s H scope (compEnvC scope cl C X.env) fp) tg g) (ht : ∀ (s : Shared) (H : Hp) (C : Addr) (cl : List (Str × Addr)) (fp : List Addr), PTs (X.blk s H scope (compEnvC scope cl C X.env) fp) ifs tt)
    (hk : ∀ (s : Shared) (H : Hp) (C : Addr) (cl : List (Str × Addr)) (fp : List Addr), PE (X.blk s H scope (compEnvC scope cl C X.env) fp) kx tk)
    (he : ∀ (s : Shared) (H : Hp) (C : Addr) (cl : List (Str × Addr)) (fp : List Addr), PE (X.blk s H scope (compEnvC scope cl C X.env) fp) vx tv) (hs : ∀ x, foldedSetIterable iter X.env x = pure x)
    (h : tDcG o0 wi g tt tk tv (own.map (·.2)) σ H Q)
    (hRR : ∀ D C s' m H', Inv X pins σ H' s' → Q (.ref D) H' → s'.heap.Ns C m → FpOk X pins H' C → compPost (model X.prog X.w) X.A X.xe use Qf (.ref D) C (.ok .next) s') :
    wpAny (model X.prog X.w) X.A (comprehension (.DictComp kx vx [⟨tg, iter, ifs, 0⟩] scope pos) scope X.env pos' newDict false (eval iter X.env) use) Qf X.xe s := by
  have hfree : ∀ y ∈ scope.names, y.2 = .free → ∃ c, X.env.cells.lookup y.1 = some c := fun y hy e => by
    rcases ok.free y hy e with k | k
    · exact I.ok.has _ (.inl k)
    · exact I.ok.has _ (.inr k)
  refine wpAny_comprehension_free (use := use) rfl hs (closure_ok hfree) ok.kind (fun y hy e => by rw [ok.uniq y hy, e])
    (thn (hi.run pins s σ H _ I h) fun xv s1 hx => thn hx fun itv s2 h2 => ?_)
  obtain ⟨it, fp, tn, J, H2, e, I2, T, st2, f2, q⟩ := h2
  subst e
  refine wpAny_newObj_type (newEnv_comp ?_)
  generalize hD : s2.heap.objs.size = D
  have hDn : H2 D = none := I2.hok.fresh (Nat.le_of_eq hD)
  obtain ⟨W, ⟨m0, w0⟩, turn⟩ := q D hDn
  generalize hs3 : ({ s2 with heap := s2.heap.push { cls := .type "dict", data := .dict #[] } } : Shared) = s3
  have I3 : Inv X pins σ (upd H2 D o0) s3 := by
    rw [← hs3]
    refine I2.laid (t' := s2.toks) (fun b o e => Heap.get?_push_of_some _ e) (Nat.le_of_eq hD) ?_
    rw [← hD]
    exact h0.ok s2.heap I2.big
  have h3 : s3.heap = s2.heap.push { cls := .type "dict", data := .dict #[] } := by rw [← hs3]
  have sz : ∀ b ∈ fp, b < s2.heap.objs.size := fun b hb => by
    obtain ⟨o, e, _⟩ := T.obj _ _ st2 b hb
    exact Heap.lt_size e
  have f3 : ∀ b ∈ fp, FpOk X pins (upd H2 D o0) b ∧ b < s3.heap.objs.size := fun b hb => by
    have hlt := sz b hb
    refine ⟨⟨?_, (f2 b hb).2⟩, by rw [h3, Heap.size_push]; exact Nat.lt_succ_of_lt hlt⟩
    rw [upd_ne (by rw [← hD]; exact Nat.ne_of_lt hlt)]
    exact (f2 b hb).1
  have st3 : tn 0 s3.heap := T.keep _ _ _ st2 fun b _ o e => by rw [h3]; exact Heap.get?_push_of_some _ e
  have I4 := block_start I3 ok hN f3
  have pg := hg s3 (upd H2 D o0) s3.heap.objs.size (cellsFrom (s3.heap.objs.size + 1) scope.names (cloFrom X.env.cells scope.names [])) fp
  have pt := ht s3 (upd H2 D o0) s3.heap.objs.size (cellsFrom (s3.heap.objs.size + 1) scope.names (cloFrom X.env.cells scope.names [])) fp
  have pk := hk s3 (upd H2 D o0) s3.heap.objs.size (cellsFrom (s3.heap.objs.size + 1) scope.names (cloFrom X.env.cells scope.names [])) fp
  have pe := he s3 (upd H2 D o0) s3.heap.objs.size (cellsFrom (s3.heap.objs.size + 1) scope.names (cloFrom X.env.cells scope.names [])) fp
  show codeAny _ _ (.compStart (.DictComp kx vx [⟨tg, iter, ifs, 0⟩] scope pos) 0 (.ref it) (.ref D) (compEnvC scope (cellsFrom (s3.heap.objs.size + 1) scope.names (cloFrom X.env.cells scope.names [])) s3.heap.objs.size X.env)) (compPost (model X.prog X.w) X.A X.xe use Qf (.ref D) s3.heap.objs.size) { s3 with heap := pushCells (s3.heap.push { cls := .type "dict", data := .dict #[] }) scope.names }
  have nfp : ∀ b ∈ fp, (upd H2 D o0) b = none := fun b hb => (f3 b hb).1.1
  generalize hce : compEnvC scope (cellsFrom (s3.heap.objs.size + 1) scope.names (cloFrom X.env.cells scope.names [])) s3.heap.objs.size X.env = ce at I4 pg pt pk pe ⊢
  have cL : ce.locals = s3.heap.objs.size := by subst hce; rfl
  generalize hH3 : upd H2 D o0 = H3 at I3 I4 pg pt pk pe w0 nfp f3
  generalize hs4 : ({ s3 with heap := pushCells (s3.heap.push { cls := .type "dict", data := .dict #[] }) scope.names } : Shared) = s4 at I4 ⊢
  have st4 : tn 0 s4.heap := T.keep _ _ _ st3 fun b _ o e => by rw [← hs4]; exact pushCells_keeps _ _ _ _ (Heap.get?_push_of_some _ e)
  have stat : ∀ {σ' : L2.St} {H' : Hp} {s' : Shared}, Inv (X.blk s3 H3 scope ce fp) [] σ' H' s' → (∀ b ∈ fp, H' b = none) → ∀ b ∈ fp, FpOk (X.blk s3 H3 scope ce fp) [] H' b := fun {σ' H' s'} I' hn b hb =>
    ⟨hn b hb, (I'.ok.exf b hb).1, I'.ok.exfs b hb, .inl hb, fun x c e => (I'.ok.exf b hb).2 x c e, fun p hp => absurd (show p ∈ ([] : List (Addr × Obj)) ++ [] from hp) (by simp)⟩
  have loop : codeAny (model X.prog X.w) X.A (.compLoop (.DictComp kx vx [⟨tg, iter, ifs, 0⟩] scope pos) 0 (.ref it) (.ref D) ce) (compPost (model X.prog X.w) X.A X.xe use Qf (.ref D) s3.heap.objs.size) s4 := by
    refine compLoop_anyD (fun n s' => ∃ i H', Inv (X.blk s3 H3 scope ce fp) [] (wipe σ (own.map (·.2))) H' s' ∧ tn i s'.heap ∧ (∀ b ∈ fp, H' b = none) ∧ W i n H') ?_ m0 ⟨0, H3, I4, st4, nfp, w0⟩
    rintro n s5 ⟨i, H5, I5, st5, n5, w5⟩
    rcases turn i n H5 w5 with ⟨stop, qq⟩ | ⟨go, Nx, hNx, step⟩
    · have td := T.done (X.blk s3 H3 scope ce fp) rfl rfl rfl hc i [] s5 _ H5 (fun _ _ => False) I5 (stat I5 n5) st5 stop
      refine thnF td fun r s6 ⟨hr, I6⟩ => ?_
      subst hr
      have I7 : Inv X pins σ H5 s6 := I3.call' (ch := fp) I6.os I6.base I6.hok I6.bare fun b hb => ⟨(f3 b hb).1.2.2.2.1, (f3 b hb).1.2.1, (f3 b hb).1.2.2.2.2.1, (f3 b hb).1.2.2.2.2.2⟩
      have nC : H5 s3.heap.objs.size = none := by
        have z : H5 ce.locals = none := I6.free
        rw [cL] at z
        exact z
      obtain ⟨m, hn, _⟩ := I6.loc
      have hn : s6.heap.Ns ce.locals m := hn
      rw [cL] at hn
      exact hRR D s3.heap.objs.size s6 m H5 I7 qq hn (I3.fpOk (Nat.le_refl _) nC)
    · have ti := T.item (X.blk s3 H3 scope ce fp) rfl rfl rfl hc i [] s5 _ H5 (fun _ _ => False) I5 (stat I5 n5) st5 go
      refine thnF ti fun r s6 ⟨u, hr, h6⟩ => ?_
      subst hr
      refine thnF h6 fun _ s7 ⟨x, H7, I7, r7, y7, st7, n7⟩ => ?_
      have I7' := I7.pinned (stat I7 n7) (T.obj _ _ st7)
      refine thnF (pg.run _ s7 _ H7 x u _ I7' r7 (step x H7 y7)) fun _ s8 ⟨σ8, H8, I8, hw8, q8⟩ => ?_
      refine thnF (pt.run _ s8 σ8 H8 _ I8 q8) fun b s9 ⟨H9, I9, q9⟩ => ?_
      have fin : ∀ {s' : Shared} {H' : Hp}, Inv (X.blk s3 H3 scope ce fp) ([] ++ pinsAt fp s7.heap) σ8 H' s' → Nx H' → ∃ m, m < n ∧ ∃ i H', Inv (X.blk s3 H3 scope ce fp) [] (wipe σ (own.map (·.2))) H' s' ∧ tn i s'.heap ∧ (∀ b ∈ fp, H' b = none) ∧ W i m H' := fun {s' H'} I' nx => by
        obtain ⟨m', hm, w'⟩ := hNx H' nx
        have pin' : ∀ b ∈ fp, ∀ o, s7.heap.get? b = some o → s'.heap.get? b = some o ∧ H' b = none := fun b hb o e =>
          let z := I'.pin (b, o) (List.mem_append_right _ (List.mem_append_right _ (mem_pinsAt hb e)))
          ⟨z.1, z.2.1⟩
        have hl : (wipe σ (own.map (·.2))).length = σ8.length := by rw [← hw8, wipe_length]
        refine ⟨m', hm, i + 1, H', (I'.unpinned (pins := [])).weak hl (fun j v e => ?_), T.keep _ _ _ st7 fun b hb o e => (pin' b hb o e).1, fun b hb => ?_, w'⟩
        · rw [← hw8] at e
          exact (wipe_some e).1
        · obtain ⟨o, e, _⟩ := T.obj _ _ st7 b hb
          exact (pin' b hb o e).2
      cases b with
      | false =>
        simp only [Bool.false_eq_true, if_false] at q9 ⊢
        exact fin I9 q9
      | true =>
        simp only [if_true] at q9 ⊢
        refine thnF (pk.run _ s9 σ8 H9 _ I9 q9) fun z s10 ⟨yk, H10, I10, r10, q10⟩ => ?_
        refine thnF (pe.run _ s10 σ8 H10 _ I10 q10) fun z2 s11 ⟨yv, H11, I11, r11, H12, dp, nx⟩ => ?_
        exact d_dictSetG (X := X.blk s3 H3 scope ce fp) hu I11 dp r10 r11 fun s12 I12 => fin I12 nx
  exact codeAny_compStart_dict loop (T.self X.A 0 _ _ _ st4 loop)
theorem pe_dcG {o0 : HO} {kx vx tg iter : Expr} {ifs : List Expr} {scope : Scope} {own : List (Str × Nat)} {pos : Pos} {wi : TI} {g : TG} {tt : TT} {tk tv : TE} (h0 : E0 o0) (hu : X.A.units < cLine) (hc : X.calm = true) (hN : X.N.Nodup) (hi : PI X tg iter wi) (ok : BlkOk X.N X.env.scope scope own)
    (hg : ∀ (s : Shared) (H : Hp) (C : Addr) (cl : List (Str × Addr)) (fp : List Addr), PG (X.blk s H scope (compEnvC scope cl C X.env) fp) tg g) (ht : ∀ (s : Shared) (H : Hp) (C : Addr) (cl : List (Str × Addr)) (fp : List Addr), PTs (X.blk s H scope (compEnvC scope cl C X.env) fp) ifs tt)
    (hk : ∀ (s : Shared) (H : Hp) (C : Addr) (cl : List (Str × Addr)) (fp : List Addr), PE (X.blk s H scope (compEnvC scope cl C X.env) fp) kx tk)
    (he : ∀ (s : Shared) (H : Hp) (C : Addr) (cl : List (Str × Addr)) (fp : List Addr), PE (X.blk s H scope (compEnvC scope cl C X.env) fp) vx tv) (hs : ∀ x, foldedSetIterable iter X.env x = pure x := by intro _; rfl) :
    PE X (.DictComp kx vx [⟨tg, iter, ifs, 0⟩] scope pos) (tDcG o0 wi g tt tk tv (own.map (·.2))) := by
  refine ⟨fun pins s σ H Q I h => ?_⟩
  rw [arm_eval_DictComp]
  refine dcG_core h0 hu hc hN I hi ok hg ht hk he hs h fun D C s' m H' I' q hn f => ⟨m, hn, fun h'' sb => ?_⟩
  obtain ⟨f0, f1, f2, f3, f4, f5⟩ := f
  exact ⟨.ref D, H', I'.turned (t' := s'.toks) (fun b o hb e => (sb.2 b hb).trans e) f0 f1 f3 f4 f5, rfl, q⟩
/-- name = {..} by the comprehension's own store -/
theorem ps_setDcG {o0 : HO} {i : Nat} {y : Str} {py : Pos} {kx vx tg iter : Expr} {ifs : List Expr} {scope : Scope} {own : List (Str × Nat)} {pos spos : Pos} {wi : TI} {g : TG} {tt : TT} {tk tv : TE} (h0 : E0 o0) (hu : X.A.units < cLine) (hc : X.calm = true) (hN : X.N.Nodup) (hy : X.N[i]? = some y) (hyl : X.env.scope.names.lookup y = some .local)
    (hsw : swapsWith (.DictComp kx vx [⟨tg, iter, ifs, 0⟩] scope pos) (some (.Name y py)) spos.line X.env = pure true) (hi : PI X tg iter wi) (ok : BlkOk X.N X.env.scope scope own)
    (hg : ∀ (s : Shared) (H : Hp) (C : Addr) (cl : List (Str × Addr)) (fp : List Addr), PG (X.blk s H scope (compEnvC scope cl C X.env) fp) tg g) (ht : ∀ (s : Shared) (H : Hp) (C : Addr) (cl : List (Str × Addr)) (fp : List Addr), PTs (X.blk s H scope (compEnvC scope cl C X.env) fp) ifs tt)
    (hk : ∀ (s : Shared) (H : Hp) (C : Addr) (cl : List (Str × Addr)) (fp : List Addr), PE (X.blk s H scope (compEnvC scope cl C X.env) fp) kx tk)
    (he : ∀ (s : Shared) (H : Hp) (C : Addr) (cl : List (Str × Addr)) (fp : List Addr), PE (X.blk s H scope (compEnvC scope cl C X.env) fp) vx tv) (hs : ∀ x, foldedSetIterable iter X.env x = pure x := by intro _; rfl) :
    PS X (.Assign [.Name y py] (.DictComp kx vx [⟨tg, iter, ifs, 0⟩] scope pos) spos) (tAsg (tDcG o0 wi g tt tk tv (own.map (·.2))) (gName i)) := by
  refine ⟨fun pins s σ H D I h => ?_⟩
  rw [exec_Assign_Name_used _ _ _ _ hsw]
  refine wpAny_bind (wpAny_standAt (wpAny_bind ?_))
  show wpAny _ X.A (do let _ ← comprehension (.DictComp kx vx [⟨tg, iter, ifs, 0⟩] scope pos) scope X.env (firstIterPos [⟨tg, iter, ifs, 0⟩] pos) newDict false (eval iter X.env) (some (assign (.Name y py) X.env))) _ _ s
  have h : tDcG o0 wi g tt tk tv (own.map (·.2)) σ H (fun x H1 => gName i x σ H1 D.nx) := h
  refine wpAny_bind (thn (dcG_core (Qf := fun _ s' => SP X pins D .next s') h0 hu hc hN I hi ok hg ht hk he hs h fun L C s' m H' I' q hn f => ?_) fun _ s' hq => wpAny_pure (wpAny_pure hq))
  show wpAny _ _ (assign (.Name y py) X.env (.ref L)) _ _ _
  refine wpAny_assign_Name (store_ok2 (v := V.ref L) I' hN hy (.inl hyl) rfl (fun s2 I2 ⟨a, sb, ha⟩ => ?_) (.inr hyl))
  obtain ⟨f0, f1, f2, f3, f4, f5⟩ := f
  have haC : C ≠ a := by
    rcases ha with z | z
    · rw [z]; exact f1
    · exact fun e => f4 y a z e.symm
  exact ⟨m, hn.sameBut sb haC, fun h3 sb3 => ⟨_, H', I2.turned (t' := s2.toks) (fun b o hb e => (sb3.2 b hb).trans e) f0 f1 f3 f4 f5, q⟩⟩
end
end GT

/-! GtO: dicts of one's own. -/
namespace GT
open PySem PySem.Spec PyProof.Rows L2 RZ
/-- a dict's content -/
inductive DS where
  | K (kvs : List (Key × D)) | T (kvs : List (List Key × D))
def DS.put : DS → D → D → Option DS
  | .K kvs, k, v => if kvs.length < 1000000 then (keyOf k).map fun q => .K (putD kvs q v) else none
  | .T kvs, k, v => if kvs.length < 1000000 then (tkeyOf k).map fun q => .T (putD kvs q v) else none
def DS.slot : DS → Slot
  | .K kvs => .oK kvs
  | .T kvs => .oT kvs
def DS.d : DS → D
  | .K kvs => .dK kvs
  | .T kvs => .dT kvs
def DS.o0 : DS → HO
  | .K _ => .dK []
  | .T _ => .dT []
def DS.nil : DS → DS
  | .K _ => .K []
  | .T _ => .T []
/-- the dict at a -/
inductive CtD (C : Cst) (r : List Addr) (W : Addr → Prop) (H : Hp) : DS → Addr → Prop
  | K {a : Addr} {ks : List (Key × D)} {xs : List (Key × V)} (h : H a = some (.dK xs)) (hl : ks.map (·.1) = xs.map (·.1)) (hz : xs.length ≤ sizeLine) (q : RpL C r W H (ks.map (·.2)) (xs.map (·.2))) : CtD C r W H (.K ks) a
  | T {a : Addr} {ks : List (List Key × D)} {xs : List (List Key × V)} (h : H a = some (.dT xs)) (hl : ks.map (·.1) = xs.map (·.1)) (hz : xs.length ≤ sizeLine) (q : RpL C r W H (ks.map (·.2)) (xs.map (·.2))) : CtD C r W H (.T ks) a
section
variable {X : Cx} {C : Cst} {Wx : WX}
theorem CtD.slR {r : List Addr} {W : Addr → Prop} {H : Hp} {s : DS} {a : Addr} (h : CtD C r W H s a) : SlR C r W H s.slot (some a) (some (.ref a)) := by
  cases h with
  | K h hl hz q => exact .oK h hl hz q
  | T h hl hz q => exact .oT h hl hz q
theorem CtD.at {r : List Addr} {W : Addr → Prop} {H : Hp} {s : DS} {a : Addr} (h : CtD C r W H s a) : ∃ o, H a = some o ∧ (∀ ps, o ≠ .tbl ps) ∧ ∀ q, o ≠ LamX.CodeO a q := by
  cases h with
  | K h => exact ⟨_, h, (fun _ z => nomatch z), fun _ z => by unfold LamX.CodeO at z; cases z⟩
  | T h => exact ⟨_, h, (fun _ z => nomatch z), fun _ z => by unfold LamX.CodeO at z; cases z⟩
theorem CtD.keep {r r' : List Addr} {W W' : Addr → Prop} {H H' : Hp} {s : DS} {a : Addr} (k : Kp r r' W W' H H') (e : H' a = H a) (h : CtD C r W H s a) : CtD C r' W' H' s a := by
  cases h with
  | K h hl hz q => exact .K (e.trans h) hl hz (q.keep k)
  | T h hl hz q => exact .T (e.trans h) hl hz (q.keep k)
theorem CtD.step {r r' : List Addr} {W : Addr → Prop} {H H' : Hp} {s : DS} {a : Addr} (st : Step r r' H H') (hr : a ∉ r) (h : CtD C r W H s a) : CtD C r' W H' s a := by
  obtain ⟨o, e, no, _⟩ := h.at
  exact h.keep st.kp (by rw [e]; exact st.ext a o e hr no)
theorem CtD.rp {r : List Addr} {W W' : Addr → Prop} {H : Hp} {s : DS} {a : Addr} (h : CtD C r W H s a) (hr : a ∉ r) (hw : ¬ W' a) (sub : ∀ z, W' z → W z) : Rp C r W' H s.d (.ref a) := by
  cases h with
  | K h hl hz q => exact .dK (.inl h) hl hz hr hw (q.anti sub)
  | T h hl hz q => exact .dT (.inl h) hl hz hr hw (q.anti sub)
theorem len_putD {κ : Type} [DecidableEq κ] (kvs : List (κ × D)) (k : κ) (v : D) : (putD kvs k v).length ≤ kvs.length + 1 := by
  unfold putD
  split <;> simp
theorem DS.put_rp {r : List Addr} {W : Addr → Prop} {H : Hp} {s s' : DS} {a : Addr} {kd vd : D} {y z : V} (h : CtD C r W H s a) (hw : W a) (hk : Rp C r W H kd y) (hv : Rp C r W H vd z) (e : s.put kd vd = some s') :
    ∃ o, DPut H a y z (upd H a o) ∧ ¬ Nw o ∧ CtD C r W (upd H a o) s' a := by
  cases h with
  | K h hl hz q =>
    rename_i ks xs
    unfold DS.put at e
    dsimp only at e
    split at e
    · rename_i hlen
      rw [Option.map_eq_some_iff] at e
      obtain ⟨k, e1, rfl⟩ := e
      have hl0 : xs.length < 1000000 := by
        have := congrArg List.length hl
        rw [List.length_map, List.length_map] at this
        omega
      rw [keyOf_rp (.of hk) e1]
      obtain ⟨p1, p2⟩ := putD_rp k hv hl q
      refine ⟨_, DPut.k h (mil' hl0), (fun z => nomatch z), .K upd_same p1 ?_ (p2.keep (Kp.write hw))⟩
      have := length_putK xs k z
      rw [sizeLine_eq]; omega
    · cases e
  | T h hl hz q =>
    rename_i ks xs
    unfold DS.put at e
    dsimp only at e
    split at e
    · rename_i hlen
      rw [Option.map_eq_some_iff] at e
      obtain ⟨k, e1, rfl⟩ := e
      have hl0 : xs.length < 1000000 := by
        have := congrArg List.length hl
        rw [List.length_map, List.length_map] at this
        omega
      unfold tkeyOf at e1
      split at e1
      · cases hk with
        | tup ht _ _ _ qt =>
          rw [keysOf_rp qt e1] at ht
          obtain ⟨p1, p2⟩ := putD_rp k hv hl q
          refine ⟨_, DPut.t h ht (mil' hl0), (fun z => nomatch z), .T upd_same p1 ?_ (p2.keep (Kp.write hw))⟩
          have := length_putK xs k z
          rw [sizeLine_eq]; omega
      · cases e1
    · cases e
abbrev MD := Ev → G → R DS
def RNd (C : Cst) (Wx : WX) (m : MD) : TE := fun σ H Q => ∃ W env oas g r, Sm C W env oas g r σ H ∧ PostN C Wx W r σ H (CtD C) Q (m env g)
def mNewD (m : MD) : ME := fun env g => (m env g).bind fun s g1 => .ok s.d g1
theorem re_newD {m : MD} {σ : L2.St} {H : Hp} {Q : VK} (h : RE C Wx (mNewD m) σ H Q) : RNd C Wx m σ H Q := by
  obtain ⟨W, env, oas, g, r, S, P⟩ := h
  refine ⟨W, env, oas, g, r, S, ?_⟩
  unfold mNewD at P
  revert P
  cases m env g with
  | ok ds g1 =>
    intro P a H' r' b s ha hw hc
    exact P _ _ r' (b.anti fun _ q => .inr q) s (hc.rp (fun z => b.dis a z (.inl rfl)) hw fun _ q => .inr q)
  | exc c fs g1 => exact fun P => P
  | stuck => exact fun P => P
theorem se_newD {e : Expr} {m : MD} (h : PE X e (RNd C Wx m)) : PE X e (RE C Wx (mNewD m)) := PEm h fun _ _ _ h => re_newD h
def mSetD (i : Nat) (m : MD) : MS := fun env g => (m env g).bind fun s g1 => .ok (.nx, env.set i s.slot) g1
theorem ss_ownD {st : Stmt} {m : MD} (i : Nat) (h : PS X st (tAsg (RNd C Wx m) (gName i))) : PS X st (RS C Wx (mSetD i m)) := PSm' h fun D σ H h => by
  obtain ⟨H0, r0, Wo, env, oas, g, r, S, P⟩ := h
  refine ⟨Wf oas Wo, env, oas, g, r, S.sm, ?_⟩
  unfold mSetD at P
  revert P
  cases m env g with
  | stuck => exact fun P => P
  | exc c fs g1 => exact fun P cl dx H' r' b s q => P cl dx σ H' r' (b.anti wo_wf) (S.st.trans s) (q.anti wo_wf)
  | ok ds g1 =>
    intro P a H' r' b s ha hw hc
    obtain ⟨S1, k1⟩ := S.own i b s ha hc.slR
    exact P _ H' _ r' S1 k1
theorem ss_valD {st : Stmt} {m : MD} {i : Nat} (h : PS X st (tAsg (RNd C Wx m) (gName i))) : PS X st (RS C Wx (mAsg (mNewD m) (bName i))) := ss_asg (PSm' h fun En σ H h => re_newD h) (bs_name i)
/-- {} -/
def mD0 (s : DS) : MD := fun _ g => .ok s.nil g
theorem sn_d0K {pos : Pos} : PE X (.Dict [] [] pos) (RNd C Wx (mD0 (.K []))) := PEm pe_dnewK fun σ H Q h => by
  obtain ⟨W, env, oas, g, r, S, P⟩ := h
  intro p hp
  exact P p _ r (S.bs.more hp (fun z => nomatch z)) (Step.upd hp) hp (S.bs.w0 hp) (.K upd_same rfl (Nat.zero_le _) .nil)
theorem sn_d0T {pos : Pos} : PE X (.Dict [] [] pos) (RNd C Wx (mD0 (.T []))) := PEm pe_dnewT fun σ H Q h => by
  obtain ⟨W, env, oas, g, r, S, P⟩ := h
  intro p hp
  exact P p _ r (S.bs.more hp (fun z => nomatch z)) (Step.upd hp) hp (S.bs.w0 hp) (.T upd_same rfl (Nat.zero_le _) .nil)
/-! ### comprehensions -/
def dcL (bind : Bnd) (mt : MT) (mk mv : ME) (env : Ev) : List D → DS → G → R DS
  | [], acc, g => .ok acc g
  | d :: ds, acc, g => match bind d env with
    | none => .stuck
    | some env1 => (mt env1 g).nox.bind fun b g1 => if b then (mk env1 g1).nox.bind fun k g2 => (mv env1 g2).nox.bind fun v g3 => match acc.put k v with
      | some acc' => dcL bind mt mk mv env ds acc' g3
      | none => .stuck else dcL bind mt mk mv env ds acc g1
def mDc (s0 : DS) (vs : List Nat) (mi : MI) (bind : Bnd) (mt : MT) (mk mv : ME) : MD := fun env g => (mi env g).bind fun ds g1 => dcL bind mt mk mv (wipeE env vs) ds s0.nil g1
theorem DS.e0 (s : DS) : E0 s.o0 := by
  cases s with
  | K => exact .k
  | T => exact .t
theorem DS.ct0 (s : DS) {r : List Addr} {W : Addr → Prop} {H : Hp} {a : Addr} : CtD C r W (upd H a s.o0) s.nil a := by
  cases s with
  | K => exact .K upd_same rfl (Nat.zero_le _) .nil
  | T => exact .T upd_same rfl (Nat.zero_le _) .nil
theorem DS.nw0 (s : DS) : ¬ Nw s.o0 := by
  cases s with
  | K => exact fun z => nomatch z
  | T => exact fun z => nomatch z
/-- what may be written is written -/
theorem Sm.writeG {W : Addr → Prop} {env : Ev} {oas : List (Option Addr)} {g : G} {r : List Addr} {σ : L2.St} {H : Hp} (m : Sm C W env oas g r σ H) {p : Addr} {o u : HO} (hp : W p) (hl : H p = some u) (h1 : ∀ ps, u ≠ .tbl ps) (h2 : ∀ q, u ≠ LamX.CodeO p q) (ho : some p ∉ oas) (nt : ¬ Nw o) : Sm C W env oas g r σ (upd H p o) :=
  ⟨m.bs.write hp (fun ps z => by rw [hl] at z; exact h1 ps (Option.some.inj z)) nt (fun q z => by rw [hl] at z; exact h2 q (Option.some.inj z)), m.sl.keep (Kp.write hp) fun a ha => by
      rw [upd_ne (fun q => ho (by rw [← q]; exact ha))], m.own, m.ownd⟩
theorem re_dc {s0 : DS} {vs is : List Nat} {mi : MI} {bind : Bnd} {mt : MT} {mk mv : ME} {tg : TG} (hb : BindS C is tg bind) (hi : ∀ i ∈ is, i ∈ vs) {σ : L2.St} {H : Hp} {Q : VK} (h : RNd C Wx (mDc s0 vs mi bind mt mk mv) σ H Q) : tDcG s0.o0 (RI C Wx mi) tg (RT C W0 mt) (RE C W0 mk) (RE C W0 mv) vs σ H Q := by
  obtain ⟨W, env, oas, g, r, S, P⟩ := h
  refine ⟨W, env, oas, g, r, S, ?_⟩
  unfold mDc at P
  revert P
  cases hmi : mi env g with
  | exc c fs g1 => exact fun P => P
  | stuck => exact fun P => P
  | ok ds g1 =>
    intro P J H1 r1 b1 s1 ⟨hz, Gd, Y, w, st, yl⟩ Dn hD
    have S1 := S.step s1 b1
    have hDw : ¬ W Dn := b1.w0 hD
    have hD0 : H Dn = none := s1.dom _ hD
    have P : PostN C Wx W r σ H (CtD C) Q (dcL bind mt mk mv (wipeE env vs) ds s0.nil g1) := P
    obtain ⟨oas1, Sw, ho1⟩ := (S1.more (p := Dn) (o := s0.o0) hD s0.nw0).wipe vs
    have nD : some Dn ∉ oas1 := fun z => b1.wtr Dn (S1.own Dn (ho1 _ z)) hD
    refine loop_it w (fun i H' => ∃ r' g' acc, Sm C (fun a => a = Dn ∨ W a) (wipeE env vs) oas1 g' r' (L2.wipe σ vs) H' ∧ Kp r1 r' W (fun a => a = Dn ∨ W a) H1 H' ∧ Step r r' H H' ∧ CtD C r' (fun a => a = Dn ∨ W a) H' acc Dn ∧
        PostN C Wx W r σ H (CtD C) Q (dcL bind mt mk mv (wipeE env vs) (ds.drop i) acc g')) ?_ ?_ ?_ ?_
    · exact ⟨r1, g1, _, Sw, Kp.more hD, s1.trans (Step.upd hD), s0.ct0, P⟩
    · rintro i H' _ ⟨r', g', acc, _, k, _⟩
      exact st _ _ _ k
    · rintro i x H' H'' hi' ⟨r', g', acc, Sm1, k, sr, ha, PP⟩ y
      obtain ⟨d, hd, b2, s2, q2⟩ := yl i r' _ g' H' x H'' k Sm1.bs hi' y
      have S2 := Sm1.step s2 b2
      have ha2 := ha.step s2 (fun z => Sm1.bs.dis Dn z (.inl rfl))
      rw [drop_at hd, dcL] at PP
      cases hbd : bind d (wipeE env vs) with
      | none => rw [hbd] at PP; exact PP.elim
      | some env1 =>
        rw [hbd] at PP
        refine hb _ _ _ _ _ _ _ d x env1 _ S2 q2 hbd fun σ' oas' S3 ho3 hw3 => ⟨?_, ?_⟩
        · rw [hw3 vs hi, wipe_wipe]
        · refine ⟨_, env1, oas', g', r', S3, ?_⟩
          dsimp only at PP
          revert PP
          cases hmt : mt env1 g' with
          | exc c fs g4 => exact fun PP => PP.elim
          | stuck => exact fun PP => PP.elim
          | ok b g4 =>
            intro PP c H4 r4 b4 s4 ec
            subst ec
            have S4 := S3.step s4 b4
            have k4 : Kp r1 r4 W (fun a => a = Dn ∨ W a) H1 H4 := (k.trans s2.kp).trans s4.kp
            have ha4 := ha2.step s4 (fun z => S3.bs.dis Dn z (.inl rfl))
            have sr4 : Step r r4 H H4 := (sr.trans s2).trans s4
            cases c with
            | false => exact iteF ⟨r4, g4, acc, S2.step s4 b4, k4, sr4, ha4, PP⟩
            | true =>
              refine iteT ⟨_, env1, oas', g4, r4, S4, ?_⟩
              simp only [R.nox, R.bind, if_true] at PP
              revert PP
              cases hmk : mk env1 g4 with
              | exc c fs g5 => exact fun PP => PP.elim
              | stuck => exact fun PP => PP.elim
              | ok kd g5 =>
                intro PP kv H5 r5 b5 s5 q5
                have S5 := S4.step s5 b5
                have ha5 := ha4.step s5 (fun z => S4.bs.dis Dn z (.inl rfl))
                refine ⟨_, env1, oas', g5, r5, S5, ?_⟩
                dsimp only at PP
                revert PP
                cases hmv : mv env1 g5 with
                | exc c fs g6 => exact fun PP => PP.elim
                | stuck => exact fun PP => PP.elim
                | ok vd g6 =>
                  intro PP vv H6 r6 b6 s6 q6
                  have ha6 := ha5.step s6 (fun z => S5.bs.dis Dn z (.inl rfl))
                  dsimp only at PP
                  split at PP
                  · rename_i acc' hput
                    obtain ⟨o, hdp, hnw, hct⟩ := DS.put_rp ha6 (.inl rfl) (q5.step s6) q6 hput
                    obtain ⟨u, hu, hn1, hn2⟩ := ha6.at
                    exact ⟨_, hdp, r6, g6, acc', (((S2.step s4 b4).step s5 b5).step s6 b6).writeG (.inl rfl) hu hn1 hn2 nD hnw, ((k4.trans s5.kp).trans s6.kp).trans (Kp.write (.inl rfl)), ((sr4.trans s5).trans s6).newer hD0, hct, PP⟩
                  · exact PP.elim
    · rintro H' ⟨r', g', acc, Sm1, k, sr, ha, PP⟩
      rw [List.drop_length] at PP
      exact PP Dn H' r' Sm1.bs sr hD0 hDw ha
theorem sn_dc {s0 : DS} {kx vx tg iter : Expr} {ifs : List Expr} {scope : Scope} {own : List (Str × Nat)} {is : List Nat} {pos : Pos} {mi : MI} {bind : Bnd} {mt : MT} {mk mv : ME} {tgt : TG} (hu : X.A.units < cLine) (hc : X.calm = true) (hN : X.N.Nodup) (hi : PI X tg iter (RI C Wx mi)) (ok : BlkOk X.N X.env.scope scope own) (hb : BindS C is tgt bind) (his : ∀ i ∈ is, i ∈ own.map (·.2))
    (hg : ∀ (s : Shared) (H : Hp) (C' : Addr) (cl : List (Str × Addr)) (fp : List Addr), PG (X.blk s H scope (compEnvC scope cl C' X.env) fp) tg tgt) (ht : ∀ (s : Shared) (H : Hp) (C' : Addr) (cl : List (Str × Addr)) (fp : List Addr), PTs (X.blk s H scope (compEnvC scope cl C' X.env) fp) ifs (RT C W0 mt))
    (hk : ∀ (s : Shared) (H : Hp) (C' : Addr) (cl : List (Str × Addr)) (fp : List Addr), PE (X.blk s H scope (compEnvC scope cl C' X.env) fp) kx (RE C W0 mk))
    (he : ∀ (s : Shared) (H : Hp) (C' : Addr) (cl : List (Str × Addr)) (fp : List Addr), PE (X.blk s H scope (compEnvC scope cl C' X.env) fp) vx (RE C W0 mv)) (hs : ∀ x, foldedSetIterable iter X.env x = pure x := by intro _; rfl) :
    PE X (.DictComp kx vx [⟨tg, iter, ifs, 0⟩] scope pos) (RNd C Wx (mDc s0 (own.map (·.2)) mi bind mt mk mv)) := PEm (pe_dcG s0.e0 hu hc hN hi ok hg ht hk he hs) fun _ _ _ h => re_dc hb his h
theorem ss_dc {s0 : DS} {i : Nat} {y : Str} {py : Pos} {kx vx tg iter : Expr} {ifs : List Expr} {scope : Scope} {own : List (Str × Nat)} {is : List Nat} {pos spos : Pos} {mi : MI} {bind : Bnd} {mt : MT} {mk mv : ME} {tgt : TG} (hu : X.A.units < cLine) (hc : X.calm = true) (hN : X.N.Nodup) (hy : X.N[i]? = some y) (hyl : X.env.scope.names.lookup y = some .local)
    (hsw : swapsWith (.DictComp kx vx [⟨tg, iter, ifs, 0⟩] scope pos) (some (.Name y py)) spos.line X.env = pure true) (hi : PI X tg iter (RI C Wx mi)) (ok : BlkOk X.N X.env.scope scope own) (hb : BindS C is tgt bind) (his : ∀ i ∈ is, i ∈ own.map (·.2))
    (hg : ∀ (s : Shared) (H : Hp) (C' : Addr) (cl : List (Str × Addr)) (fp : List Addr), PG (X.blk s H scope (compEnvC scope cl C' X.env) fp) tg tgt) (ht : ∀ (s : Shared) (H : Hp) (C' : Addr) (cl : List (Str × Addr)) (fp : List Addr), PTs (X.blk s H scope (compEnvC scope cl C' X.env) fp) ifs (RT C W0 mt))
    (hk : ∀ (s : Shared) (H : Hp) (C' : Addr) (cl : List (Str × Addr)) (fp : List Addr), PE (X.blk s H scope (compEnvC scope cl C' X.env) fp) kx (RE C W0 mk))
    (he : ∀ (s : Shared) (H : Hp) (C' : Addr) (cl : List (Str × Addr)) (fp : List Addr), PE (X.blk s H scope (compEnvC scope cl C' X.env) fp) vx (RE C W0 mv)) (hs : ∀ x, foldedSetIterable iter X.env x = pure x := by intro _; rfl) :
    PS X (.Assign [.Name y py] (.DictComp kx vx [⟨tg, iter, ifs, 0⟩] scope pos) spos) (tAsg (RNd C Wx (mDc s0 (own.map (·.2)) mi bind mt mk mv)) (gName i)) := PSm' (ps_setDcG s0.e0 hu hc hN hy hyl hsw hi ok hg ht hk he hs) fun En σ H h => re_dc hb his h
/-! ### d[k] = v on a dict of one's own -/
def dsOf : Slot → Option DS
  | .oK kvs => some (.K kvs)
  | .oT kvs => some (.T kvs)
  | _ => none
def mPut (i : Nat) (mk mv : ME) : MS := fun env g => match (env[i]?).bind dsOf with
  | some s => (mv env g).bind fun v g1 => (mk env g1).bind fun k g2 => match s.put k v with
    | some s' => .ok (.nx, env.set i s'.slot) g2
    | none => .stuck
  | none => .stuck
theorem own_dict {r : List Addr} {W : Addr → Prop} {H : Hp} {sl : Slot} {s : DS} {o : Option Addr} {v : Option V} (h : SlR C r W H sl o v) (e : dsOf sl = some s) : ∃ a, o = some a ∧ v = some (.ref a) ∧ CtD C r W H s a := by
  unfold dsOf at e
  split at e
  · cases e
    cases h with
    | oK h hl hz q => exact ⟨_, rfl, rfl, .K h hl hz q⟩
  · cases e
    cases h with
    | oT h hl hz q => exact ⟨_, rfl, rfl, .T h hl hz q⟩
  · cases e
theorem ss_put {o i value : Expr} {pos pos' pn : Pos} {mk mv : ME} {x : Str} (j : Nat) (hu : X.A.units + 1 < cLine) (hN : X.N[j]? = some x) (hv : Vis X.env.scope x) (hd : (x == ("__debug__" : Str)) = false) (hcd : (x == ("__classdict__" : Str)) = false) (hk : PE X i (RE C Wx mk)) (hvv : PE X value (RE C Wx mv)) (hs : swapsWith value (some (.Subscript (.Name x pn) i pos')) pos.line X.env = pure false) :
    PS X (.Assign [.Subscript (.Name x pn) i pos'] value pos) (RS C Wx (mPut j mk mv)) := PSm' (ps_dput hu (pe_var hN hv hd hcd) hk hvv hs) fun En σ H h => by
  obtain ⟨H0, r0, Wo, env, oas, g, r, S, P⟩ := h
  unfold mPut at P
  split at P
  · rename_i s hs0
    obtain ⟨sl, hsl, hs⟩ := Option.bind_eq_some_iff.mp hs0
    obtain ⟨oo, vv, e1, e2, e3⟩ := S.sm.sl.get hsl
    obtain ⟨a, rfl, rfl, _⟩ := own_dict e3 hs
    refine ⟨Wf oas Wo, env, oas, g, r, S.sm, Post.mono (PoS.split S.st P) fun v H1 ⟨d, g1, r1, b1, s1, p1, q1⟩ => ?_⟩
    have S1 := S.step s1 b1
    refine ⟨_, e2, Wf oas Wo, env, oas, g1, r1, S1.sm, Post.mono (PoS.split S1.st q1) fun y H2 ⟨kd, g2, r2, b2, s2, p2, q2⟩ => ?_⟩
    have S2 := S1.step s2 b2
    dsimp only at q2
    split at q2
    · rename_i s' hput
      obtain ⟨oo, vv, e1', e2', e3'⟩ := S2.sm.sl.get hsl
      rw [e1] at e1'
      cases e1'
      obtain ⟨a', ea, rfl, hct⟩ := own_dict e3' hs
      cases ea
      have hWa : Wf oas Wo a := .inl (List.mem_of_getElem? e1)
      obtain ⟨o', hdp, hnw, hct'⟩ := DS.put_rp hct hWa p2 (p1.step s2) hput
      obtain ⟨S3, k3⟩ := S2.wr (o := o') e1 e2 hct.slR hnw hct'.slR
      exact ⟨a, _, rfl, hdp, q2 σ _ oas r2 S3 k3⟩
    · exact q2.elim
  · exact P.elim
end
end GT

/-! GtP: sorted of a list of tuples of ints, any number of them. -/
namespace GT
open PySem PySem.Spec PyProof.Rows L2 RZ
def lexL : List Int → List Int → Bool
  | [], [] => false
  | [], _ :: _ => true
  | _ :: _, [] => false
  | a :: as, b :: bs => if a = b then lexL as bs else decide (a < b)
theorem lexL_asym : ∀ x y : List Int, lexL x y = true → lexL y x = false
  | [], [], h => by simp [lexL] at h
  | [], _ :: _, _ => by simp [lexL]
  | _ :: _, [], h => by simp [lexL] at h
  | a :: as, b :: bs, h => by
    unfold lexL at h ⊢
    by_cases e : a = b
    · rw [if_pos e] at h; rw [if_pos e.symm]; exact lexL_asym as bs h
    · rw [if_neg e] at h; rw [if_neg (Ne.symm e)]; simp at h ⊢; omega
theorem lexL_tr : ∀ x y z : List Int, lexL y x = false → lexL z y = false → lexL z x = false
  | [], [], z, _, h => h
  | [], _ :: _, [], _, h => by simp [lexL] at h
  | [], _ :: _, _ :: _, _, _ => by simp [lexL]
  | _ :: _, [], _, h, _ => by simp [lexL] at h
  | _ :: _, _ :: _, [], _, h => by simp [lexL] at h
  | a :: as, b :: bs, c :: cs, h1, h2 => by
    unfold lexL at h1 h2 ⊢
    by_cases e1 : b = a
    · rw [if_pos e1] at h1
      by_cases e2 : c = b
      · rw [if_pos e2] at h2; rw [if_pos (e2.trans e1)]; exact lexL_tr as bs cs h1 h2
      · rw [if_neg e2] at h2; rw [if_neg (fun z => e2 (z.trans e1.symm))]; simp at h2 ⊢; omega
    · rw [if_neg e1] at h1
      by_cases e2 : c = b
      · rw [if_neg (fun z => e1 (e2.symm.trans z))]; simp at h1 ⊢; omega
      · rw [if_neg e2] at h2
        simp at h1 h2
        rw [if_neg (by omega)]
        simp; omega
theorem swoL : SrtO.Swo lexL := ⟨lexL_asym, lexL_tr⟩
theorem swoLk {α : Type} (k : α → List Int) : SrtO.Swo fun x y => lexL (k x) (k y) := ⟨fun x y => lexL_asym _ _, fun x y z => lexL_tr _ _ _⟩
/-- put behind all that are not above it -/
def insL {α : Type} (lt : α → α → Bool) (y : α) : List α → List α
  | [] => [y]
  | x :: l => if lt y x then y :: x :: l else x :: insL lt y l
def sortL {α : Type} (lt : α → α → Bool) (l : List α) : List α := l.foldl (fun acc y => insL lt y acc) []
theorem insL_ok {α : Type} {lt : α → α → Bool} (O : SrtO.Swo lt) (y : α) : ∀ (l : List α), SrtO.Srtd lt l → ∃ M N, l = M ++ N ∧ insL lt y l = M ++ y :: N ∧ (∀ x ∈ M, lt y x = false) ∧ ∀ x ∈ N, lt y x = true
  | [], _ => ⟨[], [], rfl, rfl, (fun x h => by cases h), (fun x h => by cases h)⟩
  | x :: l, hs => by
    unfold insL
    by_cases q : lt y x = true
    · rw [if_pos q]
      exact ⟨[], x :: l, rfl, rfl, (fun x h => by cases h), O.lt_all hs q⟩
    · rw [if_neg q]
      obtain ⟨M, N, e1, e2, h1, h2⟩ := insL_ok O y l (List.pairwise_cons.mp hs).2
      refine ⟨x :: M, N, by rw [e1]; rfl, by rw [e2]; rfl, fun z hz => ?_, h2⟩
      rcases List.mem_cons.mp hz with e | e
      · rw [e]; simpa using q
      · exact h1 z e
theorem sortL_ok {α : Type} {lt : α → α → Bool} (O : SrtO.Swo lt) (l : List α) : SrtO.Srtd lt (sortL lt l) ∧ SrtO.Stb lt (sortL lt l) l := by
  have go : ∀ (l acc pre : List α), SrtO.Srtd lt acc → SrtO.Stb lt acc pre → SrtO.Srtd lt (l.foldl (fun acc y => insL lt y acc) acc) ∧ SrtO.Stb lt (l.foldl (fun acc y => insL lt y acc) acc) (pre ++ l) := fun l => by
    induction l with
    | nil => intro acc pre h1 h2; rw [List.append_nil]; exact ⟨h1, h2⟩
    | cons y l ih =>
      intro acc pre h1 h2
      obtain ⟨M, N, e1, e2, h3, h4⟩ := insL_ok O y acc h1
      have := ih (insL lt y acc) (pre ++ [y]) (by rw [e2]; exact SrtO.ins_srtd O (e1 ▸ h1) h3 h4) (by rw [e2]; exact SrtO.ins_stb O h4 (e1 ▸ h2))
      rw [List.append_assoc] at this
      exact this
  exact go l [] [] List.Pairwise.nil (SrtO.Stb.refl _)
theorem sortL_uniq {α : Type} {lt : α → α → Bool} (O : SrtO.Swo lt) {l m : List α} (h1 : SrtO.Srtd lt m) (h2 : SrtO.Stb lt m l) : m = sortL lt l := by
  obtain ⟨h3, h4⟩ := sortL_ok O l
  exact SrtO.stb_uniq O h1 h3 ⟨h2.perm.trans h4.perm.symm, fun x => (h2.cls x).trans (h4.cls x).symm⟩
/-! ### the model's comparisons -/
def IsInts (h : Heap) (v : Value) (ns : List Int) : Prop := ∃ a o its n, v = .ref a ∧ h.get? a = some o ∧ o.cls = .type "tuple" ∧ o.data = .seq its n ∧ IntsAre its.toList ns
theorem IsInts.keeps {h h' : Heap} {v : Value} {ns : List Int} (p : IsInts h v ns) (k : ∀ b o, h.get? b = some o → o.cls = .type "tuple" → h'.get? b = some o) : IsInts h' v ns := by
  obtain ⟨a, o, its, n, e, ho, hc, hd⟩ := p
  exact ⟨a, o, its, n, e, k _ _ ho hc, hc, hd⟩
section
variable {prog : Program} {w : World} {A : Around} {E : Value → Shared → Prop} {s : Shared}
theorem lex_intsL {b fin : Bool} {Q : Bool → Shared → Prop} : ∀ {xs ys : List Value} {ns ms : List Int} (i : Nat), IntsAre xs ns → IntsAre ys ms → fin = decide (ns.length < ms.length) → Q (lexL ns ms) s → PySem.W.KatLex prog w A b fin Q (xs.zip ys) i s
  | _, _, _, _, i, .nil, .nil, hf, h => by
    subst hf
    exact PySem.W.kat_nil h
  | _, _, _, _, i, .nil, .cons m t hy, hf, h => by
    subst hf
    exact PySem.W.kat_nil h
  | _, _, _, _, i, .cons n t hx, .nil, hf, h => by
    subst hf
    exact PySem.W.kat_nil h
  | _, _, _, _, i, .cons n t hx (vs := vs) (ns := ns), .cons m u hy (vs := ws) (ns := ms), hf, h => by
    rw [List.zip_cons_cons]
    refine PySem.W.kat_cons (SeqAt.EqAt.int_int n t m u prog w _ _ ?_)
    unfold lexL at h
    refine PySem.W.kat_go (fun e1 => ?_) (fun e1 => ?_)
    · have ex : n = m := by simpa using e1
      rw [if_pos ex] at h
      refine PySem.W.kat_yes (lex_intsL (i + 1) hx hy ?_ h)
      rw [hf]
      simp
    · have ex : ¬ n = m := by simpa using e1
      rw [if_neg ex] at h
      exact PySem.W.kat_no (TS.oneLt_ints _ h)
theorem ints_cmp {vs : List Value} {k : Value → List Int} (hp : ∀ v ∈ vs, IsInts s.heap v (k v)) : SrtO.Cmp prog w A s (tuples' true) (fun p => p.1 ∈ vs) (SrtO.lt2 fun v u => lexL (k v) (k u)) := by
  intro p q hm hm'
  obtain ⟨a, o, its, n, e, ho, hc, hd, hi⟩ := hp _ hm
  obtain ⟨a', o', its', n', e', ho', hc', hd', hi'⟩ := hp _ hm'
  show wpAny (model prog w) A (keyLt' (tuples' true) p.1 q.1) (fun r s' => s' = s ∧ r = lexL (k p.1) (k q.1)) (fun _ _ => False) s
  generalize k p.1 = ns at hi ⊢
  generalize k q.1 = ms at hi' ⊢
  rw [e, e']
  refine PySem.W.kat_lt ho hd ho' hd' (lex_intsL 0 hi hi' ?_ ⟨rfl, rfl⟩)
  rw [← hi.length, ← hi'.length, Array.length_toList, Array.length_toList]
theorem firstsL {h : Heap} : ∀ {vs : List Value}, (∀ v ∈ vs, ∃ ns, ns ≠ [] ∧ IsInts h v ns) → ∃ fs : List Value, PySem.W.KatTups h vs fs ∧ fs.length = vs.length ∧ ∀ f ∈ fs, ∃ x t, f = Value.int x t
  | [], _ => ⟨[], PySem.W.KatTups.nil, rfl, fun _ hm => by simp at hm⟩
  | v :: vs, hp => by
    obtain ⟨fs, h1, h2, h3⟩ := firstsL (vs := vs) fun v' hm => hp v' (List.mem_cons_of_mem _ hm)
    obtain ⟨ns, hne, a, o, its, n, e, ho, hc, hd, hi⟩ := hp v (List.mem_cons_self ..)
    subst e
    obtain ⟨its⟩ := its
    cases hi with
    | nil => exact absurd rfl hne
    | cons x t hi =>
      refine ⟨.int x t :: fs, PySem.W.KatTups.cons ho hc hd (by simp) h1, by rw [List.length_cons, List.length_cons, h2], fun f hm => ?_⟩
      rcases List.mem_cons.mp hm with rfl | hm
      · exact ⟨x, t, rfl⟩
      · exact h3 f hm
theorem ints_sortable {a : Addr} {vs : List Value} {k : Value → List Int} (h0 : 0 < vs.length) (hp : ∀ v ∈ vs, k v ≠ [] ∧ IsInts s.heap v (k v)) (ha : ∀ o, s.heap.get? a = some o → o.cls ≠ .type "tuple") : SrtO.SortableO prog w A s a vs fun v u => lexL (k v) (k u) := by
  intro h' keep
  have hp' : ∀ v ∈ vs, k v ≠ [] ∧ IsInts h' v (k v) := fun v hm => ⟨(hp v hm).1, (hp v hm).2.keeps fun b o e c => keep b o (fun z => by subst z; exact ha o e c) e⟩
  obtain ⟨fs, h1, h2, h3⟩ := firstsL fun v hm => ⟨_, hp' v hm⟩
  refine ⟨tuples' true, fun Q E hq => ?_, ints_cmp fun v hv => (hp' v hv).2⟩
  refine PySem.W.kat_kind (T := .type "int") h1 (by omega) (fun f hm => ?_) (by rfl) ?_
  · obtain ⟨x, t, rfl⟩ := h3 f hm
    exact PySem.W.Looks.now
  · have e : (Value.type "int" != Value.type "tuple") = true := by first | decide +kernel | rfl | decide
    rw [e]
    exact hq
theorem sorted_ints {l : Addr} {vs : List Value} {k : Value → List Int} {Q : Value → Shared → Prop} (hl : s.heap.IsList l vs.toArray) (hz : vs.length ≤ sizeLine) (hp : ∀ v ∈ vs, k v ≠ [] ∧ IsInts s.heap v (k v))
    (h : ∀ (h' : Heap) (d : Addr) (out : List Value), SrtO.Srtd (fun v u => lexL (k v) (k u)) out → SrtO.Stb (fun v u => lexL (k v) (k u)) out vs → (∀ b o, s.heap.get? b = some o → h'.get? b = some o) → s.heap.objs.size ≤ d → (∃ n, h'.get? d = some (seqObj "list" out.toArray n)) → Q (.ref d) { s with heap := h' }) :
    wpAny (model prog w) A (call (.builtin "sorted") [.ref l]) Q E s := by
  refine SrtO.sorted_ord (swoLk k) hl hz (fun h2 h₁ a ha kk => ?_) fun out hs hb => ?_
  · refine ints_sortable (s := { s with heap := h₁ }) (by omega) (fun v hm => ⟨(hp v hm).1, (hp v hm).2.keeps fun b o e _ => (kk b o e).2⟩) fun o e => ?_
    have e' : some o = some (seqObj "list" vs.toArray 0) := e.symm.trans ha
    cases e'
    intro c
    exact absurd (Value.type.inj c) (by decide)
  · exact h _ _ out hs hb (fun b o e => sortedAll_old e) (Nat.le_succ _) (sortedAll_at s.heap vs out.toArray)
end
/-! ### as a rule -/
def rSortedL (K : PySem.W.Frag) : List V → Hp → VK → Prop := fun vs H Q => ∃ (a : Addr) (xs : List V) (k : V → List Int), vs = [V.ref a] ∧ SqL K H a xs ∧ (∀ x ∈ xs, k x ≠ [] ∧ ∃ t, x = V.ref t ∧ H t = some (.tup ((k x).map V.int))) ∧
  ∀ ys p, SrtO.Srtd (fun x y => lexL (k x) (k y)) ys → SrtO.Stb (fun x y => lexL (k x) (k y)) ys xs → H p = none → Q (.ref p) (upd H p (.lst ys))
theorem cr_sortedL {X : Cx} : CallR X (.builtin "sorted") (rSortedL X.K) := by
  intro pins s σ H vs us Q I r h
  obtain ⟨a, xs, k, rfl, hs, hx, q⟩ := h
  obtain ⟨its, rv, hl, hz⟩ := I.list hs
  obtain ⟨u, rfl, ru⟩ := vals1 r
  obtain rfl : u = Value.ref a := ru
  obtain ⟨e1, e2⟩ := refs_back rv fun x m => by
    obtain ⟨_, t, e, _⟩ := hx x m
    exact ⟨t, e⟩
  refine sorted_ints (k := fun u => k (backV u)) hl.isList (by rw [← rv.length]; exact hz) (fun v hv => ?_) fun h' d out h1 h2 kp hd hn => ?_
  · obtain ⟨t, rfl⟩ := e2 v hv
    have hm : V.ref t ∈ xs := by rw [e1]; exact List.mem_map.mpr ⟨_, hv, rfl⟩
    obtain ⟨hne, t', e, ht⟩ := hx _ hm
    cases e
    obtain ⟨_, its2, r2, o, ho, hc, n, hd⟩ := I.hok _ _ ht
    exact ⟨hne, t, o, its2.toArray, n, rfl, ho, hc, hd, Vals.ints r2⟩
  · have h3 : ∀ u ∈ out, ∃ a, u = Value.ref a := fun u hu => e2 u (h2.perm.mem_iff.mp hu)
    obtain ⟨n, hn⟩ := hn
    have hb : SrtO.Stb (fun x y => lexL (k x) (k y)) (out.map backV) xs := by
      rw [e1]
      exact SrtO.Stb.map (swoLk k) backV h2
    refine ⟨.ref d, upd H d (.lst (out.map backV)), I.laid (t' := s.toks) kp hd ⟨?_, out, n, vals_back h3, hn⟩, rfl, q _ d (SrtO.srtd_map h1) hb (I.hok.fresh hd)⟩
    rw [hb.len]
    exact hz
/-! ### in data -/
def intsOf : List D → Option (List Int)
  | [] => some []
  | .int i :: ds => (intsOf ds).map (i :: ·)
  | _ :: _ => none
def tupsOf : List D → Option (List (List Int))
  | [] => some []
  | .tup (d :: ds) :: es => match intsOf (d :: ds), tupsOf es with
    | some ns, some nss => some (ns :: nss)
    | _, _ => none
  | _ :: _ => none
def fSorted : List D → Option D
  | [.lst ds] => (tupsOf ds).map fun nss => .lst ((sortL lexL nss).map fun ns => .tup (ns.map .int))
  | _ => none
section
variable {C : Cst}
theorem intsOf_rp {r : List Addr} {W : Addr → Prop} {H : Hp} : ∀ {ds : List D} {vs : List V} {ns : List Int}, RpL C r W H ds vs → intsOf ds = some ns → vs = ns.map V.int ∧ ds = ns.map D.int
  | _, _, _, .nil, e => by simp only [intsOf] at e; cases e; exact ⟨rfl, rfl⟩
  | _, _, _, .cons (d := d) h t, e => by
    cases d with
    | int i =>
      simp only [intsOf, Option.map_eq_some_iff] at e
      obtain ⟨ms, e1, rfl⟩ := e
      obtain ⟨h1, h2⟩ := intsOf_rp t e1
      rw [h.isInt, h1, h2]
      exact ⟨rfl, rfl⟩
    | _ => simp [intsOf] at e
theorem tupsOf_rp {r : List Addr} {W : Addr → Prop} {H : Hp} : ∀ {ds : List D} {vs : List V} {nss : List (List Int)}, RpL C r W H ds vs → tupsOf ds = some nss →
    ∃ k : V → List Int, vs.map k = nss ∧ ∀ x ∈ vs, k x ≠ [] ∧ (∃ t, x = .ref t ∧ H t = some (.tup ((k x).map V.int))) ∧ Rp C r W H (.tup ((k x).map D.int)) x := by
  intro ds vs nss h e
  let k : V → List Int := fun v => match v with
    | .ref t => match H t with
      | some (.tup xs) => xs.filterMap fun x => match x with
        | .int i => some i
        | _ => none
      | _ => []
    | _ => []
  have fm : ∀ ns : List Int, (ns.map V.int).filterMap (fun x => match x with
        | .int i => some i
        | _ => none) = ns := fun ns => by
    induction ns with
    | nil => rfl
    | cons n ns ih => rw [List.map_cons, List.filterMap_cons]; simp only [ih]
  have kt : ∀ t ns, H t = some (.tup (ns.map V.int)) → k (.ref t) = ns := fun t ns ht => by
    show (match H t with
      | some (.tup xs) => xs.filterMap fun x => match x with
        | .int i => some i
        | _ => none
      | _ => []) = ns
    rw [ht]
    exact fm ns
  refine ⟨k, ?_⟩
  have go : ∀ {ds : List D} {vs : List V} {nss : List (List Int)}, RpL C r W H ds vs → tupsOf ds = some nss → vs.map k = nss ∧ ∀ x ∈ vs, k x ≠ [] ∧ (∃ t, x = .ref t ∧ H t = some (.tup ((k x).map V.int))) ∧ Rp C r W H (.tup ((k x).map D.int)) x := fun {ds} => by
    induction ds with
    | nil =>
      intro vs nss h e
      cases h
      simp only [tupsOf] at e
      cases e
      exact ⟨rfl, fun x hx => by cases hx⟩
    | cons d ds ih =>
      intro vs nss h e
      cases h with
      | cons h t =>
        unfold tupsOf at e
        split at e
        · rename_i e1; cases e1
        · rename_i d1 ds1 es1 e1
          cases e1
          split at e
          · rename_i ns nss' a1 a2
            cases e
            obtain ⟨i1, i2⟩ := ih t a2
            cases h with
            | tup ht hz hr hw q =>
              obtain ⟨j1, j2⟩ := intsOf_rp q a1
              subst j1
              have kv := kt _ _ ht
              refine ⟨by rw [List.map_cons, kv, i1], fun x hx => ?_⟩
              rcases List.mem_cons.mp hx with z | z
              · subst z
                rw [kv]
                refine ⟨fun z => ?_, ⟨_, rfl, ht⟩, ?_⟩
                · rw [z] at j2; cases j2
                · rw [← j2]; exact .tup ht hz hr hw q
              · exact i2 x z
          · cases e
        · cases e
  exact go h e
theorem cs_sorted : CallS C fSorted (rSortedL C.K) := fun Wx W g r σ H ds d xs Q e b p z => by
  unfold fSorted at e
  split at e
  · rename_i es
    rw [Option.map_eq_some_iff] at e
    obtain ⟨nss, e1, rfl⟩ := e
    obtain ⟨v, rfl, p'⟩ := p.one
    obtain ⟨a, us, rfl, h1, hz, q1⟩ := p'.isLst
    obtain ⟨k, hk, ha⟩ := tupsOf_rp q1 e1
    refine ⟨a, us, k, rfl, .inl (.inl h1), fun x hx => ⟨(ha x hx).1, (ha x hx).2.1⟩, fun ys p hs hb hp => ?_⟩
    have e2 : ys.map k = sortL lexL nss := by
      refine sortL_uniq swoL (SrtO.srtd_map hs) ?_
      rw [← hk]
      exact SrtO.Stb.map swoL k hb
    have hz' : ys.length ≤ sizeLine := by rw [hb.len]; exact hz
    have q2 : RpL C r W H ((sortL lexL nss).map fun ns => .tup (ns.map .int)) ys := by
      rw [← e2, List.map_map]
      refine RpL.of_get (by simp) fun i d v h1 h2 => ?_
      rw [List.getElem?_map, h2] at h1
      cases h1
      exact (ha v (hb.perm.mem_iff.mp (List.mem_of_getElem? h2))).2.2
    exact z _ _ r (b.upd hp) (Step.upd hp) (Rp.newL b hp hz' q2)
  · cases e
end
theorem bb_sorted : bootBuiltins "sorted" = some (.builtin "sorted") := by decide +kernel
end GT

/-! GtQ: dicts that all may change. -/
namespace GT
open PySem PySem.Spec PyProof.Rows L2 RZ
section
variable {C : Cst}
theorem GOs.get {r : List Addr} {W : Addr → Prop} {H : Hp} : ∀ {g : G} {l : List Addr} {n : Nat} {o : GO}, GOs C r W H g l → g[n]? = some o → ∃ a, l[n]? = some a ∧ GOR C r W H o a
  | _, _, _, _, .nil, e => by simp at e
  | _, _, 0, _, .cons h _, e => by simp at e; subst e; exact ⟨_, rfl, h⟩
  | _, _, n + 1, o, .cons _ t, e => by
    obtain ⟨a, h1, h2⟩ := GOs.get (n := n) (o := o) t (by simpa using e)
    exact ⟨a, by simpa using h1, h2⟩
theorem GOs.len {r : List Addr} {W : Addr → Prop} {H : Hp} : ∀ {g : G} {l : List Addr}, GOs C r W H g l → g.length = l.length
  | _, _, .nil => rfl
  | _, _, .cons _ t => by simp [GOs.len t]
theorem GOs.app {r : List Addr} {W : Addr → Prop} {H : Hp} {o : GO} {a : Addr} (h : GOR C r W H o a) : ∀ {g : G} {l : List Addr}, GOs C r W H g l → GOs C r W H (g ++ [o]) (l ++ [a])
  | _, _, .nil => .cons h .nil
  | _, _, .cons q t => .cons q (GOs.app h t)
theorem GOs.setn {r : List Addr} {W : Addr → Prop} {H : Hp} {o : GO} {a : Addr} (h : GOR C r W H o a) : ∀ {g : G} {l : List Addr} (n : Nat), l[n]? = some a → GOs C r W H g l → GOs C r W H (g.set n o) l
  | _, _, _, _, .nil => .nil
  | _, _, 0, e, .cons q t => by simp at e; subst e; exact .cons h t
  | _, _, n + 1, e, .cons q t => .cons q (GOs.setn h n (by simpa using e) t)
theorem Step.gwrite {r : List Addr} {H : Hp} {a : Addr} {o : HO} (h : a ∈ r) : Step r r H (L2.upd H a o) := ⟨fun _ _ h => h, fun _ h => .inl h, fun b u e hr _ => by rw [upd_ne (fun z => hr (by rw [z]; exact h))]; exact e, upd_dom⟩
theorem GOR.keep {r r' : List Addr} {W W' : Addr → Prop} {H H' : Hp} {o : GO} {a : Addr} (k : Kp r r' W W' H H') (e : H' a = H a) (h : GOR C r W H o a) : GOR C r' W' H' o a := by
  cases h with
  | dct h hl hz q => exact .dct (e.trans h) hl hz (q.keep k)
  | ins h hl hc q => exact .ins (e.trans h) hl hc (q.keep k)
/-- the n-th object is written -/
theorem GOs.put {r : List Addr} {W : Addr → Prop} {H : Hp} {o : GO} {u : HO} {a : Addr} (k : Kp r r W W H (upd H a u)) (h : GOR C r W (upd H a u) o a) : ∀ {g : G} {l : List Addr} (n : Nat), l.Nodup → l[n]? = some a → GOs C r W H g l → GOs C r W (upd H a u) (g.set n o) l
  | _, _, _, _, _, .nil => .nil
  | _, _, 0, nd, e, .cons q t => by
    simp at e
    subst e
    rw [List.nodup_cons] at nd
    exact .cons h (t.keep k fun b hb => by rw [upd_ne (fun z => nd.1 (by rw [← z]; exact hb))])
  | _, _, n + 1, nd, e, .cons q t => by
    rw [List.nodup_cons] at nd
    have e : _ := (by simpa using e)
    refine .cons (q.keep k ?_) (GOs.put k h n nd.2 e t)
    rw [upd_ne (fun z => nd.1 (by rw [z]; exact List.mem_of_getElem? e))]
theorem gnc_set {o : GO} (ho : o.nc = true) : ∀ {g : G} (n : Nat), gnc g = true → gnc (g.set n o) = true
  | [], _, h => h
  | x :: g, 0, h => by
    unfold gnc at h ⊢
    rw [List.all_cons, Bool.and_eq_true] at h
    rw [List.set_cons_zero, List.all_cons, ho, h.2]
    rfl
  | x :: g, n + 1, h => by
    unfold gnc at h ⊢
    rw [List.all_cons, Bool.and_eq_true] at h
    rw [List.set_cons_succ, List.all_cons, h.1]
    exact gnc_set ho n h.2
theorem ncs_put {κ : Type} [DecidableEq κ] {k : κ} {v : D} (hv : v.nc = true) {kvs : List (κ × D)} (h : D.ncs (kvs.map (·.2)) = true) : D.ncs ((putD kvs k v).map (·.2)) = true := by
  unfold putD
  split
  · rename_i hc
    clear hc
    induction kvs with
    | nil => rfl
    | cons p kvs ih =>
      rw [List.map_cons, D.ncs, Bool.and_eq_true] at h
      rw [List.map_cons, List.map_cons, D.ncs, Bool.and_eq_true]
      refine ⟨?_, ih h.2⟩
      split
      · exact hv
      · exact h.1
  · rename_i hc
    clear hc
    induction kvs with
    | nil => rw [List.nil_append, List.map_cons, D.ncs, hv]; rfl
    | cons p kvs ih =>
      rw [List.map_cons, D.ncs, Bool.and_eq_true] at h
      rw [List.cons_append, List.map_cons, D.ncs, Bool.and_eq_true]
      exact ⟨h.1, ih h.2⟩
theorem gnc_get {g : G} {n : Nat} {o : GO} (h : gnc g = true) (e : g[n]? = some o) : o.nc = true := by
  unfold gnc at h
  rw [List.all_eq_true] at h
  exact h o (List.mem_of_getElem? e)
theorem Bs.gput {W : Addr → Prop} {g : G} {r : List Addr} {H : Hp} {n : Nat} {a : Addr} {o : GO} {u : HO} (b : Bs C W g r H) (e : r[n]? = some a) (nw : ¬ Nw u) (h : GOR C r W (L2.upd H a u) o a) (hn : o.nc = true) : Bs C W (g.set n o) r (L2.upd H a u) := by
  have hm : a ∈ r := List.mem_of_getElem? e
  obtain ⟨v, hv, nt⟩ := GOs.notb (l := r) b.objs hm
  have nx : ∀ φ, H a ≠ some (.ext φ) := fun φ => GOs.noext b.objs hm
  refine ⟨fun q hq => ?_, b.nd, fun c hc => ?_, fun c hc => ?_, b.dis, fun c hc o' n' => ?_, GOs.put (Step.gwrite hm).kp h n b.nd e b.objs, gnc_set hn n b.gn⟩
  · obtain ⟨ps, h1, h2, h3⟩ := b.tabs q hq
    refine ⟨ps, ?_, h2, fun pos cv hc => ?_⟩
    · rw [upd_ne (fun z => nt ps (by rw [← z, h1] at hv; exact (Option.some.inj hv).symm))]; exact h1
    · obtain ⟨c, e1, e2⟩ := h3 pos cv hc
      exact ⟨c, e1, by rw [upd_ne (fun z => nx _ (by rw [← z]; exact e2))]; exact e2⟩
  · by_cases z : c = a
    · rw [z, upd_same]; exact fun y => nomatch y
    · rw [upd_ne z]; exact b.rtr c hc
  · rw [upd_ne (fun z => b.dis a hm (by rw [← z]; exact hc))]; exact b.wtr c hc
  · rw [upd_ne (fun z => b.dis a hm (by rw [← z]; exact hc))]; exact b.wnt c hc o' n'
end
/-! ### reading -/
def gAt (g : G) (d : D) (k : Key) : Option D := match d with
  | .gr n => match g[n]? with
    | some (.dct kvs) => valD kvs k
    | _ => none
  | _ => none
def mGet (m : ME) (k : Key) : ME := fun env g => (m env g).bind fun d g1 => liftO (gAt g1 d k) g1
section
variable {X : Cx} {C : Cst} {Wx : WX}
theorem gAt_rp {W : Addr → Prop} {g : G} {r : List Addr} {H : Hp} {d e : D} {v : V} {k : Key} (b : Bs C W g r H) (h : Rp C r W H d v) (eq : gAt g d k = some e) : ∃ a xs w, v = .ref a ∧ H a = some (.dK xs) ∧ valV xs k = some w ∧ Rp C r W H e w := by
  unfold gAt at eq
  split at eq
  · rename_i n
    split at eq
    · rename_i kvs hk
      cases h with
      | gr h =>
        obtain ⟨a', h1, h2⟩ := b.objs.get hk
        rw [h] at h1
        cases h1
        cases h2 with
        | dct h hl hz q =>
          rcases valD_rp k hl q with ⟨i1, i2⟩ | ⟨z, w, i1, i2, i3⟩
          · rw [i1] at eq; cases eq
          · rw [i1] at eq; cases eq
            exact ⟨_, _, w, rfl, h, i2, i3⟩
    · cases eq
  · cases eq
theorem se_get {a b : Expr} {pos : Pos} {ma : ME} {k : Key} (hu : X.A.units + 1 < cLine) (ha : PE X a (RE C Wx ma)) (hb : PE X b (tC (kV k))) (hs : PlainIx b) : PE X (.Subscript a b pos) (RE C Wx (mGet ma k)) :=
  PEm (pe_ix (ix_any hu) ha hb hs) fun σ H Q h => by
    obtain ⟨W, env, oas, g, r, S, P⟩ := h
    refine ⟨W, env, oas, g, r, S, Post.mono (Post.split P) fun v H1 ⟨d, g1, r1, b1, s1, p1, q1⟩ => ?_⟩
    obtain ⟨e, he, q2⟩ := liftO_some q1
    obtain ⟨a, xs, w, rfl, h1, h2, h3⟩ := gAt_rp b1 p1 he
    exact .inr ⟨a, w, rfl, h2 ▸ DGet.k h1, q2.here b1 h3⟩
/-! ### writing: name[k] = v -/
def gPut (g : G) (d : D) (k : Key) (v : D) : Option G := match d with
  | .gr n => match g[n]? with
    | some (.dct kvs) => if kvs.length < 1000000 ∧ v.nc = true then some (g.set n (.dct (putD kvs k v))) else none
    | _ => none
  | _ => none
def mGPut (i : Nat) (k : Key) (mv : ME) : MS := fun env g => match env[i]? with
  | some (.val d) => (mv env g).bind fun v g1 => match gPut g1 d k v with
    | some g2 => .ok (.nx, env) g2
    | none => .stuck
  | _ => .stuck
theorem ss_gput {i value : Expr} {pos pos' pn : Pos} {mv : ME} {x : Str} {k : Key} (j : Nat) (hu : X.A.units + 1 < cLine) (hN : X.N[j]? = some x) (hv : Vis X.env.scope x) (hd : (x == ("__debug__" : Str)) = false) (hcd : (x == ("__classdict__" : Str)) = false) (hk : PE X i (tC (kV k))) (hvv : PE X value (RE C Wx mv)) (hs : swapsWith value (some (.Subscript (.Name x pn) i pos')) pos.line X.env = pure false) :
    PS X (.Assign [.Subscript (.Name x pn) i pos'] value pos) (RS C Wx (mGPut j k mv)) := PSm' (ps_dput hu (pe_var hN hv hd hcd) hk hvv hs) fun En σ H h => by
  obtain ⟨H0, r0, Wo, env, oas, g, r, S, P⟩ := h
  unfold mGPut at P
  split at P
  · rename_i d hd
    obtain ⟨oo, vv, e1, e2, e3⟩ := S.sm.sl.get hd
    cases e3 with
    | val hp =>
      refine ⟨Wf oas Wo, env, oas, g, r, S.sm, Post.mono (PoS.split S.st P) fun v H1 ⟨vd, g1, r1, b1, s1, p1, q1⟩ => ?_⟩
      have S1 := S.step s1 b1
      refine ⟨_, e2, ?_⟩
      dsimp only at q1
      split at q1
      · rename_i g2 hg2
        unfold gPut at hg2
        split at hg2
        · rename_i n
          have hp1 := hp.step s1
          cases hp1 with
          | @gr _ a hn =>
            split at hg2
            · rename_i kvs hkv
              split at hg2
              · rename_i hlen0
                obtain ⟨hlen, hvn⟩ := hlen0
                cases hg2
                have hno : GO.nc (.dct (putD kvs k vd)) = true := ncs_put hvn (gnc_get b1.gn hkv)
                obtain ⟨a', h1, h2⟩ := b1.objs.get hkv
                rw [hn] at h1
                cases h1
                have hm := List.mem_of_getElem? hn
                cases h2 with
                | @dct _ _ xs h hl hz q =>
                  have hl0 : xs.length < 1000000 := by
                    have := congrArg List.length hl
                    rw [List.length_map, List.length_map] at this
                    omega
                  obtain ⟨k1, k2⟩ := putD_rp k p1 hl q
                  have st : Step r1 r1 H1 (upd H1 a (.dK (putK xs k v))) := Step.gwrite hm
                  have hz' : (putK xs k v).length ≤ sizeLine := by
                    have := length_putK xs k v
                    rw [sizeLine_eq]; omega
                  have b2 := b1.gput (o := .dct (putD kvs k vd)) hn (u := .dK (putK xs k v)) (fun z => nomatch z) (.dct upd_same k1 hz' (k2.step st)) hno
                  have S2 := S1.step st b2
                  exact ⟨a, _, rfl, DPut.k h (mil' hl0), q1 σ _ oas r1 S2 st.kp⟩
              · cases hg2
            · cases hg2
        · cases hg2
      · exact q1.elim
  · exact P.elim
/-! ### making: {k: v, ..} -/
def dispL : List (Key × ME) → Ev → G → R (List (Key × D))
  | [], _, g => .ok [] g
  | (k, m) :: ps, env, g => (m env g).bind fun d g1 => (dispL ps env g1).bind fun ds g2 => .ok ((k, d) :: ds) g2
def mergeD (kvs : List (Key × D)) : List (Key × D) := kvs.foldl (fun acc kv => putD acc kv.1 kv.2) []
def mDisp (ps : List (Key × ME)) : ME := fun env g => (dispL ps env g).bind fun kvs g1 => if kvs.length ≤ 15 ∧ D.ncs (kvs.map (·.2)) = true then .ok (.gr g1.length) (g1 ++ [.dct (mergeD kvs)]) else .stuck
theorem gnc_app {g : G} {o : GO} (h : gnc g = true) (ho : o.nc = true) : gnc (g ++ [o]) = true := by
  unfold gnc at h ⊢
  rw [List.all_append, h]
  simp [ho]
theorem ncs_fold : ∀ {kvs acc : List (Key × D)}, D.ncs (kvs.map (·.2)) = true → D.ncs (acc.map (·.2)) = true → D.ncs ((kvs.foldl (fun acc kv => putD acc kv.1 kv.2) acc).map (·.2)) = true
  | [], _, _, h => h
  | p :: kvs, acc, h, h2 => by
    rw [List.map_cons, D.ncs, Bool.and_eq_true] at h
    exact ncs_fold (kvs := kvs) (acc := putD acc p.1 p.2) h.2 (ncs_put h.1 h2)
theorem ncs_merge {kvs : List (Key × D)} (h : D.ncs (kvs.map (·.2)) = true) : GO.nc (.dct (mergeD kvs)) = true := ncs_fold h rfl
def RlD (C : Cst) (W : Addr → Prop) : List Addr → Hp → List (Key × D) → List (V × V) → Prop := fun r H ds ps => ∃ xs : List (Key × V), ps = xs.map (fun kv => (kV kv.1, kv.2)) ∧ ds.map (·.1) = xs.map (·.1) ∧ RpL C r W H (ds.map (·.2)) (xs.map (·.2))
theorem re_pairs : ∀ (ps : List (Key × ME)) {σ : L2.St} {H : Hp} {Q : List (V × V) → Hp → Prop} {W : Addr → Prop} {env : Ev} {oas : List (Option Addr)} {g : G} {r : List Addr}, Sm C W env oas g r σ H → Post C Wx W r σ H (RlD C W) Q (dispL ps env g) → tPairs (ps.map fun p => (tC (kV p.1), RE C Wx p.2)) σ H Q
  | [], σ, H, Q, W, env, oas, g, r, S, P => Post.here (d := []) (g := g) P S.bs ⟨[], rfl, rfl, .nil⟩
  | (k, m) :: ps, σ, H, Q, W, env, oas, g, r, S, P => by
    refine ⟨W, env, oas, g, r, S, Post.mono (Post.split P) fun v H1 ⟨d, g1, r1, b1, s1, p1, q1⟩ => re_pairs ps (S.step s1 b1) (Post.mono (Post.split q1) fun w H2 ⟨ds, g2, r2, b2, s2, ⟨xs, e1, e2, e3⟩, q2⟩ => ?_)⟩
    exact Post.here (d := (k, d) :: ds) (g := g2) q2 b2 ⟨(k, v) :: xs, by rw [e1]; rfl, by rw [List.map_cons, List.map_cons, e2], .cons (p1.step s2) e3⟩
theorem mergeD_rp {r : List Addr} {W : Addr → Prop} {H : Hp} : ∀ {ds acc : List (Key × D)} {xs acc' : List (Key × V)}, ds.map (·.1) = xs.map (·.1) → RpL C r W H (ds.map (·.2)) (xs.map (·.2)) → acc.map (·.1) = acc'.map (·.1) → RpL C r W H (acc.map (·.2)) (acc'.map (·.2)) →
    (ds.foldl (fun acc kv => putD acc kv.1 kv.2) acc).map (·.1) = (mergeK acc' xs).map (·.1) ∧ RpL C r W H ((ds.foldl (fun acc kv => putD acc kv.1 kv.2) acc).map (·.2)) ((mergeK acc' xs).map (·.2))
  | [], _, [], _, _, _, h1, h2 => ⟨h1, h2⟩
  | [], _, _ :: _, _, e, _, _, _ => by simp at e
  | _ :: _, _, [], _, e, _, _, _ => by simp at e
  | p :: ds, acc, q :: xs, acc', e, h, h1, h2 => by
    rw [List.map_cons, List.map_cons, List.cons.injEq] at e
    rw [List.map_cons, List.map_cons] at h
    cases h with
    | cons hd t =>
      obtain ⟨k1, k2⟩ := putD_rp p.1 hd h1 h2
      have := mergeD_rp e.2 t (acc := putD acc p.1 p.2) (acc' := putK acc' p.1 q.2) k1 k2
      show _ = (mergeK (putK acc' q.1 q.2) xs).map _ ∧ RpL C r W H _ ((mergeK (putK acc' q.1 q.2) xs).map _)
      rw [← e.1]
      exact this
theorem se_disp {pos : Pos} {keys : List (Option Expr)} {values : List Expr} (ps : List (Key × ME)) (h : PPs X pos keys values (ps.map fun p => (tC (kV p.1), RE C Wx p.2))) (hall : keys.all (·.isSome) = true) (hl : keys.length = values.length) (h0 : keys ≠ []) (h15 : keys.length ≤ 15) : PE X (.Dict keys values pos) (RE C Wx (mDisp ps)) :=
  PEm (pe_disp h hall hl h0 h15) fun σ H Q h => by
    obtain ⟨W, env, oas, g, r, S, P⟩ := h
    intro p hp
    have S0 := S.more (o := .dK []) hp (fun z => nomatch z)
    have s0 : Step r r H (upd H p (.dK [])) := Step.upd hp
    refine re_pairs ps S0 ?_
    unfold mDisp at P
    revert P
    cases hd : dispL ps env g with
    | stuck => exact fun P => P
    | exc c fs g1 => exact fun P cl dx H' r' b s q => P cl dx H' r' (b.anti fun _ z => .inr z) (s0.trans s) (q.anti fun _ z => .inr z)
    | ok kvs g1 =>
      intro P vs H2 r2 b2 s2 ⟨xs, e1, e2, e3⟩
      have hpr : p ∉ r2 := fun z => b2.dis p z (.inl rfl)
      have h2p : H2 p = some (.dK []) := s2.ext p _ upd_same (fun z => S0.bs.dis p z (.inl rfl)) (fun _ z => by cases z)
      simp only [R.bind] at P
      split at P
      · rename_i hlen0
        obtain ⟨hlen, hnc⟩ := hlen0
        have hx : xs.length ≤ 15 := by
          have := congrArg List.length e2
          rw [List.length_map, List.length_map] at this
          omega
        refine ⟨h2p, xs, e1, hx, ?_⟩
        obtain ⟨k1, k2⟩ := mergeD_rp e2 e3 (acc := []) (acc' := []) rfl .nil
        have hz : (mergeK [] xs).length ≤ sizeLine := by
          have h1 := length_mergeK xs []
          rw [List.length_nil] at h1
          rw [sizeLine_eq]; omega
        have b3 := b2.write (p := p) (o := .dK (mergeK [] xs)) (.inl rfl) (fun ps z => by rw [h2p] at z; cases z) (fun z => nomatch z) (fun q z => by rw [h2p] at z; unfold LamX.CodeO at z; cases z)
        have b4 : Bs C W g1 r2 (upd H2 p (.dK (mergeK [] xs))) := b3.anti fun _ z => .inr z
        have hpw : ¬ W p := fun z => S.bs.wtr p z hp
        have kk : Kp r2 (r2 ++ [p]) W W (upd H2 p (.dK (mergeK [] xs))) (upd H2 p (.dK (mergeK [] xs))) → True := fun _ => trivial
        have q3 : RpL C r2 W (upd H2 p (.dK (mergeK [] xs))) ((mergeD kvs).map (·.2)) ((mergeK [] xs).map (·.2)) := (k2.keep (Kp.write (.inl rfl))).anti fun _ z => .inr z
        -- what is known does not speak of p
        have kq : Kp r2 (r2 ++ [p]) (fun a => a = p ∨ W a) W H2 (upd H2 p (.dK (mergeK [] xs))) := by
          refine ⟨fun n a h => ?_, fun a h => ?_, fun a o e hr hw no => ?_, upd_dom⟩
          · rw [List.getElem?_append_left (List.getElem?_eq_some_iff.mp h).1]; exact h
          · rcases h with h | h
            · rcases List.mem_append.mp h with h | h
              · exact .inl h
              · exact .inr (.inl (.inl (by simpa using h)))
            · exact .inr (.inl (.inr h))
          · rw [upd_ne (fun z => hw (.inl z))]; exact e
        have go : GOs C (r2 ++ [p]) W (upd H2 p (.dK (mergeK [] xs))) g1 r2 := b2.objs.keep kq fun a ha => by rw [upd_ne (fun z => hpr (by rw [← z]; exact ha))]
        have b5 : Bs C W (g1 ++ [.dct (mergeD kvs)]) (r2 ++ [p]) (upd H2 p (.dK (mergeK [] xs))) := by
          refine ⟨b4.tabs, ?_, fun a ha => ?_, b4.wtr, fun a ha hw => ?_, b4.wnt, go.app (.dct upd_same k1 hz (k2.keep kq)), gnc_app b2.gn (ncs_merge hnc)⟩
          · rw [List.nodup_append]
            exact ⟨b2.nd, by simp, fun a ha c hc z => by simp at hc; subst hc; subst z; exact hpr ha⟩
          · rcases List.mem_append.mp ha with ha | ha
            · exact b4.rtr a ha
            · simp at ha; subst ha; rw [upd_same]; exact fun z => nomatch z
          · rcases List.mem_append.mp ha with ha | ha
            · exact b4.dis a ha hw
            · simp at ha; subst ha; exact hpw hw
        have st : Step r (r2 ++ [p]) H (upd H2 p (.dK (mergeK [] xs))) := by
          have t := s0.trans s2
          refine ⟨fun n a h => kq.pre n a (t.pre n a h), fun a ha => ?_, fun a o e hr no => ?_, fun a e => t.dom a (upd_dom a e)⟩
          · rcases List.mem_append.mp ha with ha | ha
            · exact t.fresh a ha
            · simp at ha; subst ha; exact .inr hp
          · rw [upd_ne (ne_of_none e hp)]; exact t.ext a o e hr no
        refine P (.ref p) _ (r2 ++ [p]) b5 st (.gr ?_)
        have hlen : g1.length = r2.length := b2.objs.len
        rw [hlen, List.getElem?_append_right (Nat.le_refl _)]
        simp
      · exact P.elim
end
end GT

/-! GtR: where in a def's text a lambda stands. -/
namespace GT
open PySem PySem.Spec PyProof.Rows L2 RZ
def exKids : Expr → List Expr
  | .Call f args _ _ => f :: args
  | .Compare l _ cs _ => l :: cs
  | .BoolOp _ vs _ => vs
  | .UnaryOp _ a _ => [a]
  | .BinOp a _ b _ => [a, b]
  | .IfExp c a b _ => [c, a, b]
  | .Tuple es _ _ => es
  | .List es _ => es
  | .Subscript a b _ => [a, b]
  | .ListComp e gs _ _ => e :: gs.map (·.iter)
  | .Lambda _ b _ _ => [b]
  | _ => []
def stKids : Stmt → List Expr
  | .Assign _ v _ => [v]
  | .Return (some v) _ => [v]
  | .Expr v _ => [v]
  | .If t _ _ _ => [t]
  | .For _ i _ _ _ => [i]
  | .While t _ _ _ => [t]
  | _ => []
def stSubs : Stmt → List Stmt
  | .If _ b e _ => b ++ e
  | .For _ _ b _ _ => b
  | .While _ b _ _ => b
  | _ => []
def noE : Expr := .Constant .none 0 ⟨0, 0, 0, 0⟩
def exAt : Expr → List Nat → Expr
  | e, [] => e
  | e, i :: is => exAt ((exKids e).getD i noE) is
def stAt : List Stmt → List Nat → Stmt
  | _, [] => .Pass ⟨0, 0, 0, 0⟩
  | b, [i] => b.getD i (.Pass ⟨0, 0, 0, 0⟩)
  | b, i :: j :: is => stAt (stSubs (b.getD i (.Pass ⟨0, 0, 0, 0⟩))) (j :: is)
def lamAt (q : Str) (st : Stmt) (ss es : List Nat) : Option Lam := match exAt ((stKids (stAt (defBody st) ss)).getD 0 noE) es with
  | .Lambda ps b sc _ => some ⟨ps, b, sc, q, freeN sc⟩
  | _ => none
theorem sw_trueD {kx vx : Expr} {gs : List Comprehension} {scope : Scope} {pos py : Pos} {y : Str} {l : Nat} {env : Env} (hk : env.scope.kind = .function) (hy : env.scope.names.lookup y = some .local) (hl : (py.line == pos.line) = true)
    (ha : (scope.names.any fun (n, k) => n == y && (k == .local || k == .cell)) = false) : swapsWith (.DictComp kx vx gs scope pos) (some (.Name y py)) l env = pure true := by
  have ky : env.kindOf y = some .local := hy
  have hb : env.blockKind = .function := by unfold Env.blockKind; rw [hk]; rfl
  unfold swapsWith
  simp only [hb, ky, ha, Expr.pos, hl]
  rfl
end GT

/-! GtS: the end of a law. -/
namespace GT
open PySem PySem.Spec PyProof.Rows L2 RZ
theorem at_mk {K : PySem.W.Frag} {mg : Str → Option Value} {h : Heap} {x : Str} {st : Stmt} {f : Addr} {oc : Value} {od an : Option Addr} {osl : Array (Option Value)} {kV doc pm cdv ct : Value} (X : K.In h) (G : h.Ns mainGlobals mg) (a : PySem.W.nsIn K mainGlobals x = some (some (.ref f)))
    (l : K.lookup f = some ⟨oc, od, .func (PySem.W.fnOf x x (defArgs st) (defBody st) (defScope st) .none kV doc pm an cdv ct), osl⟩) (c : PySem.W.codeIn K cdv x = true) (k : PySem.W.keepIn K (.ref f) = true) : At K mg x st := ⟨f, _, fun_mk l c k, PySem.W.mg_of X G a⟩
theorem atC_mk {K : PySem.W.Frag} {mg : Str → Option Value} {h : Heap} {x : Str} {st : Stmt} {f cc : Addr} {oc : Value} {od an : Option Addr} {osl : Array (Option Value)} {kV doc pm ct : Value} (X : K.In h) (G : h.Ns mainGlobals mg) (a : PySem.W.nsIn K mainGlobals x = some (some (.ref f)))
    (l : K.lookup f = some ⟨oc, od, .func (PySem.W.fnOf x x (defArgs st) (defBody st) (defScope st) .none kV doc pm an (.ref cc) ct), osl⟩) (c : PySem.W.codeIn K (.ref cc) x = true) (k : PySem.W.keepIn K (.ref f) = true) : AtC K mg x st cc := ⟨f, oc, od, kV, doc, pm, an, ct, osl, l, c, k, PySem.W.mg_of X G a⟩
theorem int_mk {K : PySem.W.Frag} {mg : Str → Option Value} {h : Heap} {x : Str} {i : Int} {t : Tok} (X : K.In h) (G : h.Ns mainGlobals mg) (a : PySem.W.nsIn K mainGlobals x = some (some (.int i t))) : ∃ t, mg x = some (.int i t) := ⟨t, PySem.W.mg_of X G a⟩
theorem str_mk {K : PySem.W.Frag} {mg : Str → Option Value} {h : Heap} {x : Str} {i : Str} {t : Tok} (X : K.In h) (G : h.Ns mainGlobals mg) (a : PySem.W.nsIn K mainGlobals x = some (some (.str i t))) : ∃ t, mg x = some (.str i t) := ⟨t, PySem.W.mg_of X G a⟩
theorem tabIn_of {K : PySem.W.Frag} {x : Str} {f c P : Addr} {oc uc : Value} {od ud : Option Addr} {fd : FuncData} {sl us : Array (Option Value)} {vs : Array Value} (a : PySem.W.nsIn K mainGlobals x = some (some (.ref f))) (l : K.lookup f = some ⟨oc, od, .func fd, sl⟩) {hc : fd.code = .ref c}
    (u : K.lookup c = some ⟨uc, ud, .fields vs, us⟩) (h : vs[11]? = some (.ref P)) : PySem.W.tabIn K x = some (c, P) := by
  unfold PySem.W.tabIn
  rw [a]
  simp only [l, hc, u, h]
theorem law_mk {K : PySem.W.Frag} {mg : Str → Option Value} {h : Heap} {x y : Str} {st : Stmt} {f fa : Addr} {oc : Value} {od an : Option Addr} {osl : Array (Option Value)} {kV doc pm cdv ct : Value} (X : K.In h) (G : h.Ns mainGlobals mg) (hmg : mg x = some (.ref fa))
    (hb : ∀ (kV doc pm : Value) (an : Option Addr) (cdv ct : Value) (s : Shared) (u : Value), BindsTo s (PySem.W.fnOf x x (defArgs st) (defBody st) (defScope st) .none kV doc pm an cdv ct) ⟨[u], []⟩ [(y, u)]) (a : PySem.W.nsIn K mainGlobals x = some (some (.ref f)))
    (l : K.lookup f = some ⟨oc, od, .func (PySem.W.fnOf x x (defArgs st) (defBody st) (defScope st) .none kV doc pm an cdv ct), osl⟩) (c : PySem.W.codeIn K cdv x = true) (k : PySem.W.keepIn K (.ref f) = true) : ∃ fd : FuncData, L2.Fun K x x st fa fd ∧ ∀ (s : Shared) (u : Value), BindsTo s fd ⟨[u], []⟩ [(y, u)] := by
  have e := hmg.symm.trans (PySem.W.mg_of X G a)
  cases e
  exact ⟨_, fun_mk l c k, hb kV doc pm an cdv ct⟩
/-- the end, the tables of the defs xs known to be empty -/
theorem walk_ofTop {l : PySem.W.OpenLaw} {n k : Nat} {q : Program} {loose : List Str} {XP : (Str → Option Value) → Heap → Prop} {YP : World → Heap → Prop} {d : DefRec} {K : Params → PySem.W.Frag} {CX : World → CXT} {x : Str} (xs : List Str)
    (hn : l.most = some n) (hn2 : n ≤ sizeLine) (hdf : d.params.defaults = []) (hr : Room k callerA) (hrec : (xs.all fun y => ((recsOf q).find? fun e => e.name == y).isSome) = true) (hY : ∀ (w : World) (h : Heap), YP w h → (K w.params).In h)
    (F : ∀ (w : World) (mg : Str → Option Value) (fa : Addr) (h : Heap), (K w.params).In h → h.Ns mainGlobals mg → mg d.name = some (.ref fa) → (∀ y ∈ xs, ∀ c P, PySem.W.tabIn (K w.params) y = some (c, P) → PySem.W.CodeHd h c P ∧ h.get? P = some (PySem.W.tabObj #[])) → LamX.LawAtS l w (K w.params) (CX w) k n x mg fa h)
    (hCX : ∀ (w : World) (H : Hp) (s : Shared) (e : Value) (s' : Shared), CX w [] H s (fun _ _ _ => False) e s' → False) :
    PySem.W.WalkO q loose XP YP l.row.toRowW d [] (fun f vs => PySem.call f vs) := by
  refine Att.attach_callB hn hdf fun w s₀ s₁ mg mb fa o pm cd doc a vs ns G Y ho hd hcd hmg hobj hints hlen hbits hg => ?_
  have KX := hY w _ Y
  have tabs : ∀ y ∈ xs, ∀ c P, PySem.W.tabIn (K w.params) y = some (c, P) → PySem.W.CodeHd s₁.heap c P ∧ s₁.heap.get? P = some (PySem.W.tabObj #[]) := fun y hy c P ht => by
    have hz := List.all_eq_true.mp hrec y hy
    cases hf : (recsOf q).find? fun e => e.name == y with
    | none => rw [hf] at hz; cases hz
    | some d' => exact PySem.W.tab_of G.T KX hf ht
  obtain ⟨fd, cs, sp, hT, nT, C, hb, hsp, hF⟩ := F w mg fa _ KX G.T.g hmg tabs
  exact LamX.law_callTs KX G.T.g G.T.b G.T.builtins G.T.nolimit hg hT nT C G.T.bmain hobj hints (Nat.le_trans hlen hn2) hr hF hb (fun H hH hS => hsp H a ns hlen hbits hH hS) fun H e s' => hCX w H s₁ e s'
theorem no_cx {P : Program} {w : World} {H : Hp} {s : Shared} {e : Value} {s' : Shared} (h : L2.CX P w [] H s (fun _ _ _ => False) e s') : False := by
  obtain ⟨_, _, _, _, _, _, _, _, _, _, _, _, z⟩ := h
  exact z
/-- a law that is true of all scripts -/
theorem law_at {l : PySem.W.OpenLaw} {w : World} {K : PySem.W.Frag} {mg : Str → Option Value} {fa : Addr} {fd : FuncData} {h : Heap} {k : Nat} {L : Nat → Lam} {m : List D → G → R D} {x : Str} (cs : List (Addr × Addr)) (Tb : List (Addr × Str)) (hTb : ∀ q ∈ Tb, ∃ p ∈ cs, p.2 = q.1)
    (h1 : ∀ p ∈ cs, h.get? p.2 = some (PySem.W.tabObj #[])) (h2 : ∀ p ∈ cs, K.lookup p.2 = none) (h3 : ∀ p ∈ cs, PySem.W.CodeHd h p.1 p.2) (hb : ∀ (s : Shared) (u : Value), BindsTo s fd ⟨[u], []⟩ [(x, u)])
    (hm : ∀ ns : List Int, ns.length ≤ 63 → (∀ z ∈ ns, Builtin.Int.intBits z ≤ 1048576) → ∃ g, m [.scr ns] [] = .ok (.bl true) g)
    (hF : ∀ base : Heap, K.In base → base.Ns mainGlobals mg → (∀ p ∈ cs, LamX.TabB base mg p.1 p.2) → FnOk l.prog w K mg base (L2.CX l.prog w) k fa fd [x] (spOf ⟨K, mg, L, Tb⟩ 1 m)) : LamX.LawAtS l w K (L2.CX l.prog w) k 63 x mg fa h := by
  refine ⟨fd, cs, _, h1, h2, h3, hb, fun H a ns hl hbit hH hS => ?_, hF⟩
  obtain ⟨g', e⟩ := hm ns hl hbit
  have hz : ns.length ≤ sizeLine := by rw [sizeLine_eq]; omega
  refine ⟨[], fun _ => False, [], [.scr ns], ⟨fun q hq => ?_, List.nodup_nil, fun a ha => (by cases ha), fun a z => z.elim, fun a ha => (by cases ha), fun a z => z.elim, .nil, rfl⟩, .cons ?_ .nil, rfl, ?_⟩
  · obtain ⟨p, hp, e1⟩ := hTb q hq
    exact LamX.TabS.nil (by rw [← e1]; exact hH p hp)
  · rcases hS with hS | ⟨o, its, n, q1, q2, q3, q4, q5, q6⟩
    · exact .scr hS hz (fun z => by cases z) (fun z => z)
    · exact .scrK q1 q2 q3 q4 q5 q6
  · rw [e]
    intro v H' r' b s q
    exact q.isBl
end GT

/-! GtT: what does not look at the shared objects. -/
namespace GT
open PySem PySem.Spec PyProof.Rows L2 RZ
def R.at {α : Type} : R α → G → R α
  | .ok a _, g => .ok a g
  | .exc c fs _, g => .exc c fs g
  | .stuck, _ => .stuck
/-- f does not look at the shared objects, nor change them -/
def Fr {α : Type} (f : G → R α) : Prop := ∀ g, f g = (f []).at g
def FrE {α : Type} (m : Ev → G → R α) : Prop := ∀ env, Fr (m env)
def FrF (F : List D → G → R D) : Prop := ∀ ds, Fr (F ds)
def FrL (LF : LFT) : Prop := ∀ n cs ds, Fr (LF n cs ds)
section
variable {α β : Type}
theorem Fr.ok {a : α} : Fr (fun g => R.ok a g) := fun _ => rfl
theorem Fr.st : Fr (fun _ => (R.stuck : R α)) := fun _ => rfl
theorem Fr.bind {f : G → R α} {k : α → G → R β} (h : Fr f) (hk : ∀ a, Fr (k a)) : Fr (fun g => (f g).bind k) := fun g => by
  show (f g).bind k = ((f []).bind k).at g
  have h0 := h []
  rw [h g]
  cases e : f [] with
  | stuck => rfl
  | exc c fs g' => rfl
  | ok a g' =>
    rw [e] at h0
    have eg : g' = [] := by
      have : R.ok a g' = R.ok a [] := h0
      cases this
      rfl
    subst eg
    exact hk a g
theorem Fr.nox {f : G → R α} (h : Fr f) : Fr (fun g => (f g).nox) := fun g => by
  show (f g).nox = ((f []).nox).at g
  rw [h g]
  cases f [] <;> rfl
theorem Fr.lift {o : Option α} : Fr (fun g => liftO o g) := by
  cases o
  · exact Fr.st
  · exact Fr.ok
theorem Fr.ite {c : Prop} [Decidable c] {f k : G → R α} (hf : Fr f) (hk : Fr k) : Fr (fun g => if c then f g else k g) := by
  by_cases h : c
  · simp only [h, if_true]; exact hf
  · simp only [h, if_false]; exact hk
end
theorem fr_var {i : Nat} : FrE (mVar i) := fun env => by
  unfold mVar
  cases env[i]? with
  | none => exact Fr.st
  | some s => cases s <;> first | exact Fr.ok | exact Fr.st
theorem fr_pk {i : Nat} : FrE (mPk i) := fun env => by
  unfold mPk
  cases env[i]? with
  | none => exact Fr.st
  | some s => cases s <;> first | exact Fr.ok | exact Fr.st
theorem fr_c {d : D} : FrE (mC d) := fun _ => Fr.ok
theorem fr_bin {f : D → D → Option D} {ma mb : ME} (ha : FrE ma) (hb : FrE mb) : FrE (mBin f ma mb) := fun env => Fr.bind (ha env) fun _ => Fr.bind (hb env) fun _ => Fr.lift
theorem fr_tst {m : ME} (h : FrE m) : FrE (mTst m) := fun env => Fr.bind (h env) fun d => by cases d <;> first | exact Fr.ok | exact Fr.st
theorem fr_chain {f f' : D → D → Option D} {ma mb mc : ME} (ha : FrE ma) (hb : FrE mb) (hc : FrE mc) : FrE (mChain f f' ma mb mc) := fun env => Fr.bind (ha env) fun _ => Fr.bind (hb env) fun _ => Fr.bind Fr.lift fun k => by
  cases k with
  | bl b =>
    cases b
    · exact Fr.ok
    · exact Fr.bind (hc env) fun _ => Fr.lift
  | _ => exact Fr.st
theorem fr_andT {ma mb : MT} (ha : FrE ma) (hb : FrE mb) : FrE (mAndT ma mb) := fun env => Fr.bind (ha env) fun _ => Fr.ite (hb env) Fr.ok
theorem fr_orT {ma mb : MT} (ha : FrE ma) (hb : FrE mb) : FrE (mOrT ma mb) := fun env => Fr.bind (ha env) fun _ => Fr.ite Fr.ok (hb env)
theorem fr_notT {ma : MT} (ha : FrE ma) : FrE (mNotT ma) := fun env => Fr.bind (ha env) fun _ => Fr.ok
theorem fr_if {c : MT} {ma mb : ME} (hc : FrE c) (ha : FrE ma) (hb : FrE mb) : FrE (mIf c ma mb) := fun env => Fr.bind (hc env) fun _ => Fr.ite (ha env) (hb env)
theorem fr_andV {ma mb : ME} (ha : FrE ma) (hb : FrE mb) : FrE (mAndV ma mb) := fun env => Fr.bind (ha env) fun d => by
  cases d with
  | bl b =>
    cases b
    · exact Fr.ok
    · exact hb env
  | _ => exact Fr.st
theorem fr_orV {ma mb : ME} (ha : FrE ma) (hb : FrE mb) : FrE (mOrV ma mb) := fun env => Fr.bind (ha env) fun d => by
  cases d with
  | bl b =>
    cases b
    · exact hb env
    · exact Fr.ok
  | _ => exact Fr.st
theorem fr_notV {ma : ME} (ha : FrE ma) : FrE (mNotV ma) := fun env => Fr.bind (ha env) fun d => by cases d <;> first | exact Fr.ok | exact Fr.st
theorem fr_nil : FrE mNil := fun _ => Fr.ok
theorem fr_cons {m : ME} {ms : MA} (h : FrE m) (hs : FrE ms) : FrE (mCons m ms) := fun env => Fr.bind (h env) fun _ => Fr.bind (hs env) fun _ => Fr.ok
theorem fr_tup {ms : MA} (h : FrE ms) : FrE (mTup ms) := fun env => Fr.bind (h env) fun _ => Fr.ite Fr.ok Fr.st
theorem fr_lst {ms : MA} (h : FrE ms) : FrE (mLst ms) := fun env => Fr.bind (h env) fun _ => Fr.ite Fr.ok Fr.st
theorem fr_no : FrE mNo := fun _ => Fr.ok
theorem fr_part {m : ME} (h : FrE m) : FrE (mPart m) := fun env => Fr.bind (h env) fun d => by cases d <;> first | exact Fr.ok | exact Fr.st
theorem fr_sl {m : ME} {ml mh : MO} (h : FrE m) (hl : FrE ml) (hh : FrE mh) : FrE (mSl m ml mh) := fun env => Fr.bind (h env) fun _ => Fr.bind (hl env) fun _ => Fr.bind (hh env) fun _ => Fr.lift
theorem fr_blt {f : List D → Option D} {ms : MA} (h : FrE ms) : FrE (mBlt f ms) := fun env => Fr.bind (h env) fun _ => Fr.lift
theorem fr_isi {t : String → Option Bool} {m : ME} (h : FrE m) : FrE (mIsi t m) := fun env => Fr.bind (h env) fun d => by
  cases d.ty with
  | none => exact Fr.st
  | some s =>
    dsimp only
    cases t s <;> first | exact Fr.ok | exact Fr.st
theorem fr_fn {n : Nat} {F : List D → G → R D} {ms : MA} (hF : FrF F) (h : FrE ms) : FrE (mFn n F ms) := fun env => Fr.bind (h env) fun ds => Fr.ite (hF ds) Fr.st
theorem fr_itL {m : ME} (h : FrE m) : FrE (mItL m) := fun env => Fr.bind (h env) fun d => by cases d <;> first | exact Fr.ok | exact Fr.st
theorem fr_itT {m : ME} (h : FrE m) : FrE (mItT m) := fun env => Fr.bind (h env) fun d => by cases d <;> first | exact Fr.ok | exact Fr.st
theorem fr_rg1 {m : ME} (h : FrE m) : FrE (mRg1 m) := fun env => Fr.bind (h env) fun d => by
  cases d with
  | int b => exact Fr.ite Fr.ok Fr.st
  | _ => exact Fr.st
theorem fr_rg2 {m m2 : ME} (h : FrE m) (h2 : FrE m2) : FrE (mRg2 m m2) := fun env => Fr.bind (h env) fun d => Fr.bind (h2 env) fun e => by
  cases d with
  | int a => cases e with
    | int b => exact Fr.ite Fr.ok Fr.st
    | _ => exact Fr.st
  | _ => exact Fr.st
theorem fr_lstI {m : MI} (h : FrE m) : FrE (mLstI m) := fun env => Fr.bind (h env) fun _ => Fr.ok
theorem fr_tupI {m : MI} (h : FrE m) : FrE (mTupI m) := fun env => Fr.bind (h env) fun _ => Fr.ok
theorem fr_enT {m : ME} (h : FrE m) : FrE (mEnT m) := fun env => Fr.bind (h env) fun d => by cases d <;> first | exact Fr.ok | exact Fr.st
theorem fr_enL {m : ME} (h : FrE m) : FrE (mEnL m) := fun env => Fr.bind (h env) fun d => by cases d <;> first | exact Fr.ok | exact Fr.st
theorem fr_zip {m m2 : ME} (h : FrE m) (h2 : FrE m2) : FrE (mZip m m2) := fun env => Fr.bind (h env) fun d => Fr.bind (h2 env) fun e => by cases d <;> cases e <;> first | exact Fr.ok | exact Fr.st
theorem fr_new {m : Ev → G → R (List D)} (h : FrE m) : FrE (mNew m) := fun env => Fr.bind (h env) fun _ => Fr.ok
theorem fr_compL {bind : Bnd} {mt : MT} {me : ME} (ht : FrE mt) (he : FrE me) (env : Ev) : ∀ ds, Fr (compL bind mt me env ds)
  | [] => Fr.ok
  | d :: ds => by
    show Fr (fun g => match bind d env with
      | none => .stuck
      | some env1 => (mt env1 g).nox.bind fun b g1 => if b then (me env1 g1).nox.bind fun y g2 => (compL bind mt me env ds g2).bind fun ys g3 => .ok (y :: ys) g3 else compL bind mt me env ds g1)
    cases bind d env with
    | none => exact Fr.st
    | some env1 => exact Fr.bind (ht env1).nox fun b => Fr.ite (Fr.bind (he env1).nox fun _ => Fr.bind (fr_compL ht he env ds) fun _ => Fr.ok) (fr_compL ht he env ds)
theorem fr_comp {vs : List Nat} {mi : MI} {bind : Bnd} {mt : MT} {me : ME} (hi : FrE mi) (ht : FrE mt) (he : FrE me) : FrE (mComp vs mi bind mt me) := fun env => Fr.bind (hi env) fun ds => fr_compL ht he _ ds
theorem fr_yes : FrE mYes := fun _ => Fr.ok
theorem fr_items {ms : MA} (h : FrE ms) : FrE (mItems ms) := fun env => Fr.bind (h env) fun _ => Fr.ite Fr.ok Fr.st
theorem fr_listN {m : ME} (h : FrE m) : FrE (mListN m) := fun env => Fr.bind (h env) fun d => by
  cases fList [d] with
  | none => exact Fr.st
  | some e => cases e <;> first | exact Fr.ok | exact Fr.st
theorem fr_neg {m : ME} (h : FrE m) : FrE (mNeg m) := fun env => Fr.bind (h env) fun d => by cases d <;> first | exact Fr.ok | exact Fr.st
/-! ### statements -/
theorem fr_seq {m1 m2 : MS} (h1 : FrE m1) (h2 : FrE m2) : FrE (mSeq m1 m2) := fun env => Fr.bind (h1 env) fun p => by
  obtain ⟨f, e⟩ := p
  cases f <;> first | exact h2 e | exact Fr.ok
theorem fr_skip : FrE mSkip := fun _ => Fr.ok
theorem fr_stop : FrE mStop := fun _ => Fr.st
theorem fr_ret {m : ME} (h : FrE m) : FrE (mRet m) := fun env => Fr.bind (h env) fun _ => Fr.ok
theorem fr_retN : FrE mRetN := fun _ => Fr.ok
theorem fr_exp {m : ME} (h : FrE m) : FrE (mExp m) := fun env => Fr.bind (h env) fun _ => Fr.ok
theorem fr_ifS {c : MT} {m1 m2 : MS} (hc : FrE c) (h1 : FrE m1) (h2 : FrE m2) : FrE (mIfS c m1 m2) := fun env => Fr.bind (hc env) fun _ => Fr.ite (h1 env) (h2 env)
theorem fr_asg {m : ME} {bind : Bnd} (h : FrE m) : FrE (mAsg m bind) := fun env => Fr.bind (h env) fun d => by cases bind d env <;> first | exact Fr.ok | exact Fr.st
theorem fr_par {i j : Nat} {ms : MA} (h : FrE ms) : FrE (mPar i j ms) := fun env => Fr.bind (h env) fun ds => by
  cases ds with
  | nil => exact Fr.st
  | cons d ds => cases ds with
    | nil => exact Fr.st
    | cons e ds => cases ds <;> first | exact Fr.ok | exact Fr.st
theorem fr_setO {i : Nat} {m : Ev → G → R (List D)} (h : FrE m) : FrE (mSetO i m) := fun env => Fr.bind (h env) fun _ => Fr.ok
theorem fr_frz {i : Nat} {m : MS} (h : FrE m) : FrE (mFrz i m) := fun env => h _
theorem fr_app {i : Nat} {m : ME} (h : FrE m) : FrE (mApp i m) := fun env => by
  unfold mApp
  cases env[i]? with
  | none => exact Fr.st
  | some s => cases s <;> first | exact Fr.bind (h env) fun _ => Fr.ite Fr.ok Fr.st | exact Fr.st
theorem fr_ext {i : Nat} {m : ME} (h : FrE m) : FrE (mExt i m) := fun env => by
  unfold mExt
  cases env[i]? with
  | none => exact Fr.st
  | some s =>
    cases s <;> first | exact Fr.st | skip
    refine Fr.bind (h env) fun d => ?_
    cases d <;> first | exact Fr.ite Fr.ok Fr.st | exact Fr.st
theorem fr_pop {i j : Nat} : FrE (mPop i j) := fun env => by
  unfold mPop
  cases env[j]? with
  | none => exact Fr.st
  | some s =>
    cases s <;> first | exact Fr.st | skip
    rename_i ds
    dsimp only
    cases ds[ds.length - 1]? <;> first | exact Fr.ok | exact Fr.st
theorem fr_forL {bind : Bnd} {body : MS} (h : FrE body) : ∀ ds env, Fr (forL bind body ds env)
  | [], _ => Fr.ok
  | d :: ds, env => by
    show Fr (fun g => match bind d env with
      | none => .stuck
      | some env1 => (body env1 g).bind fun p g1 => match p with
        | (.nx, env2) => forL bind body ds env2 g1
        | (.ct, env2) => forL bind body ds env2 g1
        | (.bk, env2) => .ok (.nx, env2) g1
        | (.rt d, env2) => .ok (.rt d, env2) g1)
    cases bind d env with
    | none => exact Fr.st
    | some env1 =>
      refine Fr.bind (h env1) fun p => ?_
      obtain ⟨f, e⟩ := p
      cases f <;> first | exact fr_forL h ds e | exact Fr.ok
theorem fr_for {mi : MI} {bind : Bnd} {body : MS} (hi : FrE mi) (h : FrE body) : FrE (mFor mi bind body) := fun env => Fr.bind (hi env) fun ds => fr_forL h ds env
theorem fr_whileL {mt : MT} {body : MS} (ht : FrE mt) (h : FrE body) : ∀ n env, Fr (whileL mt body n env)
  | 0, _ => Fr.st
  | n + 1, env => by
    refine Fr.bind (ht env) fun b => Fr.ite (Fr.bind (h env) fun p => ?_) Fr.ok
    obtain ⟨f, e⟩ := p
    cases f <;> first | exact fr_whileL ht h n e | exact Fr.ok
theorem fr_while {n : Nat} {mt : MT} {body : MS} (ht : FrE mt) (h : FrE body) : FrE (mWhile n mt body) := fun env => fr_whileL ht h n env
theorem fr_aug {f : Int → Int → Int} {i : Nat} {m : ME} (h : FrE m) : FrE (mAug f i m) := fun env => by
  unfold mAug
  cases env[i]? with
  | none => exact Fr.st
  | some s =>
    cases s <;> first | exact Fr.st | skip
    rename_i d
    cases d <;> first | exact Fr.st | skip
    refine Fr.bind (h env) fun e => ?_
    cases e <;> first | exact Fr.ok | exact Fr.st
theorem fr_def {n : Nat} {m : MS} (h : FrE m) : FrF (mDef n m) := fun ds g => by
  have h0 := h (ev0 n ds) g
  show mDef n m ds g = (mDef n m ds []).at g
  unfold mDef
  rw [h0]
  cases m (ev0 n ds) [] with
  | stuck => rfl
  | exc c fs g' => rfl
  | ok p g' =>
    obtain ⟨f, e⟩ := p
    cases f <;> rfl
/-! ### lambdas, dicts -/
theorem fr_lam {n : Nat} {m : ME} (h : FrE m) (cs ds : List D) : Fr (mLam n m cs ds) := Fr.ite (h _) Fr.st
theorem fr_callV {LF : LFT} {i : Nat} {ms : MA} (hL : FrL LF) (h : FrE ms) : FrE (mCallV LF i ms) := fun env => by
  unfold mCallV
  cases env[i]? with
  | none => exact Fr.st
  | some s =>
    cases s <;> first | exact Fr.st | skip
    rename_i d
    cases d <;> first | exact Fr.st | exact Fr.bind (h env) fun ds => hL _ _ _
theorem fr_finC {f : G → R D} (h : Fr f) : Fr (fun g => finC (f g)) := fun g => by
  show finC (f g) = (finC (f [])).at g
  rw [h g]
  cases f [] with
  | stuck => rfl
  | ok d g' =>
    show (if d.nc = true then _ else _) = R.at (if d.nc = true then _ else _) g
    split <;> rfl
  | exc c fs g' =>
    show (if D.ncs (fs.map (·.2)) = true then _ else _) = R.at (if D.ncs (fs.map (·.2)) = true then _ else _) g
    split <;> rfl
theorem fr_lamcall {n nl : Nat} {js : List Nat} {F : List D → G → R D} {ms : MA} (hF : FrF F) (h : FrE ms) : FrE (mLamCall n nl js F ms) := fun env => Fr.bind (h env) fun ds => by
  cases capsD js env with
  | none => exact Fr.st
  | some cs => exact Fr.ite (fr_finC (hF _)) Fr.st
theorem fr_newD {m : MD} (h : FrE m) : FrE (mNewD m) := fun env => Fr.bind (h env) fun _ => Fr.ok
theorem fr_setD {i : Nat} {m : MD} (h : FrE m) : FrE (mSetD i m) := fun env => Fr.bind (h env) fun _ => Fr.ok
theorem fr_d0 {s : DS} : FrE (mD0 s) := fun _ => Fr.ok
theorem fr_dcL {bind : Bnd} {mt : MT} {mk mv : ME} (ht : FrE mt) (hk : FrE mk) (hv : FrE mv) (env : Ev) : ∀ ds acc, Fr (dcL bind mt mk mv env ds acc)
  | [], _ => Fr.ok
  | d :: ds, acc => by
    show Fr (fun g => match bind d env with
      | none => .stuck
      | some env1 => (mt env1 g).nox.bind fun b g1 => if b then (mk env1 g1).nox.bind fun k g2 => (mv env1 g2).nox.bind fun v g3 => match acc.put k v with
        | some acc' => dcL bind mt mk mv env ds acc' g3
        | none => .stuck else dcL bind mt mk mv env ds acc g1)
    cases bind d env with
    | none => exact Fr.st
    | some env1 =>
      refine Fr.bind (ht env1).nox fun b => Fr.ite (Fr.bind (hk env1).nox fun k => Fr.bind (hv env1).nox fun v => ?_) (fr_dcL ht hk hv env ds acc)
      cases acc.put k v with
      | none => exact Fr.st
      | some acc' => exact fr_dcL ht hk hv env ds acc'
theorem fr_dc {s0 : DS} {vs : List Nat} {mi : MI} {bind : Bnd} {mt : MT} {mk mv : ME} (hi : FrE mi) (ht : FrE mt) (hk : FrE mk) (hv : FrE mv) : FrE (mDc s0 vs mi bind mt mk mv) := fun env => Fr.bind (hi env) fun ds => fr_dcL ht hk hv _ ds _
theorem fr_put {i : Nat} {mk mv : ME} (hk : FrE mk) (hv : FrE mv) : FrE (mPut i mk mv) := fun env => by
  unfold mPut
  cases (env[i]?).bind dsOf with
  | none => exact Fr.st
  | some s =>
    refine Fr.bind (hv env) fun v => Fr.bind (hk env) fun k => ?_
    cases s.put k v <;> first | exact Fr.ok | exact Fr.st
theorem fr_compI {bind : Bnd} {mt : MT} {me : ME} (ht : FrE mt) (he : FrE me) (env : Ev) : ∀ ds acc, Fr (compI bind mt me env ds acc)
  | [], _ => Fr.ok
  | d :: ds, acc => by
    show Fr (fun g => match bind d env with
      | none => .stuck
      | some env1 => (mt env1 g).nox.bind fun b g1 => if b then (me env1 g1).nox.bind fun y g2 => if acc.length < 1000000 then compI bind mt me env ds (acc ++ [y]) g2 else .stuck else compI bind mt me env ds acc g1)
    cases bind d env with
    | none => exact Fr.st
    | some env1 => exact Fr.bind (ht env1).nox fun b => Fr.ite (Fr.bind (he env1).nox fun _ => Fr.ite (fr_compI ht he env ds _) Fr.st) (fr_compI ht he env ds acc)
theorem fr_compO {bind : Bnd} {mt : MT} {mi1 : MI} {bind1 : Bnd} {mt1 : MT} {me : ME} {vs1 : List Nat} (ht : FrE mt) (hi : FrE mi1) (ht1 : FrE mt1) (he : FrE me) (env : Ev) : ∀ ds acc, Fr (compO bind mt mi1 bind1 mt1 me vs1 env ds acc)
  | [], _ => Fr.ok
  | d :: ds, acc => by
    show Fr (fun g => match bind d env with
      | none => .stuck
      | some env1 => (mt env1 g).nox.bind fun b g1 => if b then (mi1 env1 g1).nox.bind fun ds1 g2 => (compI bind1 mt1 me (wipeE env1 vs1) ds1 acc g2).bind fun acc' g3 => compO bind mt mi1 bind1 mt1 me vs1 env ds acc' g3 else compO bind mt mi1 bind1 mt1 me vs1 env ds acc g1)
    cases bind d env with
    | none => exact Fr.st
    | some env1 => exact Fr.bind (ht env1).nox fun b => Fr.ite (Fr.bind (hi env1).nox fun ds1 => Fr.bind (fr_compI ht1 he _ ds1 acc) fun acc' => fr_compO ht hi ht1 he env ds acc') (fr_compO ht hi ht1 he env ds acc)
theorem fr_comp2 {vs vs1 : List Nat} {mi mi1 : MI} {bind bind1 : Bnd} {mt mt1 : MT} {me : ME} (hi : FrE mi) (ht : FrE mt) (hi1 : FrE mi1) (ht1 : FrE mt1) (he : FrE me) : FrE (mComp2 vs vs1 mi bind mt mi1 bind1 mt1 me) := fun env => Fr.bind (hi env) fun ds => fr_compO ht hi1 ht1 he _ ds []
/-- it is true -/
def isT : R D → Bool
  | .ok (.bl true) _ => true
  | _ => false
theorem fr_true {F : List D → G → R D} (h : FrF F) {ds : List D} (e : isT (F ds []) = true) (g : G) : F ds g = .ok (.bl true) g := by
  rw [h ds g]
  revert e
  cases F ds [] with
  | ok d g' =>
    cases d with
    | bl b =>
      cases b
      · intro e; cases e
      · intro e; rfl
    | _ => intro e; cases e
  | _ => intro e; cases e
end GT

/-! GtU: the laws' draws. -/
namespace GT
open PySem PySem.Spec PyProof.Rows L2 RZ
def mBegun : List D → G → R D := mDef 3 (mSeq (mAsg (mC (.int 11)) (bName 1)) (mSeq (mFor (mItL (mVar 0)) (bName 2) (mAsg (mBin fMod (mBlt fInt1 (mCons (mBin fAdd (mBin fAdd (mBin fMul (mPk 1) (mC (.int 69621))) (mBin fMod (mBlt fInt1 (mCons (mPk 2) (mNil))) (mC (.int 2147483629)))) (mC (.int 7))) (mNil))) (mC (.int 2147483647))) (bName 1))) (mRet (mDisp [(.inr "great", mNew (mComp [2] (mItL (mVar 0)) (bName 2) (mTst (mBin fGe (mPk 2) (mBin fPow (mC (.int 10)) (mC (.int 18))))) (mVar 2))), (.inr "seed", mVar 1), (.inr "turns", mC (.int 0))]))))
def mDraw : List D → G → R D := mDef 4 (mSeq (mWhile 70 (mAndT (mTst (mBin fNe (mGet (mVar 0) (.inr "great")) (mNew (mItems (mNil))))) (mTst (mBin fEq (mBin fIx (mGet (mVar 0) (.inr "great")) (mC (.int 0))) (mC (.int 0))))) (mGPut 0 (.inr "great") (mSl (mGet (mVar 0) (.inr "great")) (mPart (mC (.int 1))) (mNo)))) (mSeq (mIfS (mTst (mBin fNe (mGet (mVar 0) (.inr "great")) (mNew (mItems (mNil))))) (mSeq (mAsg (mBin fIx (mGet (mVar 0) (.inr "great")) (mC (.int 0))) (bName 3)) (mSeq (mGPut 0 (.inr "great") (mBin fAdd (mNew (mItems (mCons (mBin fDiv (mPk 3) (mPk 1)) (mNil)))) (mSl (mGet (mVar 0) (.inr "great")) (mPart (mC (.int 1))) (mNo)))) (mRet (mBin fMod (mBlt fInt1 (mCons (mPk 3) (mNil))) (mPk 1))))) (mSkip)) (mSeq (mGPut 0 (.inr "turns") (mBin fAdd (mGet (mVar 0) (.inr "turns")) (mC (.int 1)))) (mSeq (mAsg (mBin fMod (mBlt fInt1 (mCons (mBin fAdd (mBin fAdd (mBin fMul (mGet (mVar 0) (.inr "seed")) (mC (.int 48271))) (mBin fMul (mBin fMul (mGet (mVar 0) (.inr "turns")) (mGet (mVar 0) (.inr "turns"))) (mC (.int 16807)))) (mGet (mVar 0) (.inr "turns"))) (mNil))) (mC (.int 2147483647))) (bName 2)) (mSeq (mAsg (mBin fMod (mBlt fInt1 (mCons (mBin fAdd (mBin fMul (mPk 2) (mC (.int 69621))) (mC (.int 12345))) (mNil))) (mC (.int 2147483629))) (bName 2)) (mRet (mBin fMod (mBin fDiv (mBin fMod (mBlt fInt1 (mCons (mBin fAdd (mBin fMul (mPk 2) (mC (.int 40014))) (mGet (mVar 0) (.inr "turns"))) (mNil))) (mC (.int 2147483563))) (mC (.int 64))) (mPk 1))))))))
def gS (gs : List Int) (s t : Int) : GO := .dct [(.inr "great", .lst (gs.map .int)), (.inr "seed", .int s), (.inr "turns", .int t)]
def seedOf (s : Int) : List Int → Int
  | [] => s
  | n :: ns => seedOf ((s * 69621 + n % 2147483629 + 7) % 2147483647) ns
theorem ints_py : ∀ gs : List Int, D.pys (gs.map .int) = some (gs.map .int)
  | [] => rfl
  | g :: gs => by rw [List.map_cons, D.pys, ints_py gs]; rfl
theorem ints_lay : ∀ gs : List Int, PyData.canLayAll0 (gs.map .int) = true
  | [] => rfl
  | g :: gs => by rw [List.map_cons, PyData.canLayAll0, ints_lay gs]; rfl
theorem ints_depth : ∀ gs : List Int, PyData.depthAll (gs.map .int) = 0
  | [] => rfl
  | g :: gs => by rw [List.map_cons, PyData.depthAll, ints_depth gs]; rfl
theorem ints_shaped (gs : List Int) : SeqAt.shaped (.list (gs.map .int)) = true := by
  unfold SeqAt.shaped
  rw [PyData.canLay0, PyData.depth, ints_lay, ints_depth]
  decide
theorem eqv_nil (gs : List Int) : D.eqv (.lst (gs.map .int)) (.lst []) = some gs.isEmpty := by
  unfold D.eqv
  rw [D.py, D.py, ints_py]
  simp only [Option.map_some, D.pys]
  rw [ints_shaped]
  cases gs <;> rfl
theorem eqv_int (i j : Int) : D.eqv (.int i) (.int j) = some (i == j) := rfl
theorem fNe_nil (gs : List Int) : fNe (.lst (gs.map .int)) (.lst []) = some (.bl (!gs.isEmpty)) := by unfold fNe; rw [eqv_nil]; rfl
theorem fEq_int (i j : Int) : fEq (.int i) (.int j) = some (.bl (i == j)) := rfl
theorem at_great {g : G} {n : Nat} {gs : List Int} {s t : Int} (h : g[n]? = some (gS gs s t)) : gAt g (.gr n) (.inr "great") = some (.lst (gs.map .int)) := by
  simp only [gAt, h, gS]; rfl
theorem at_seed {g : G} {n : Nat} {gs : List Int} {s t : Int} (h : g[n]? = some (gS gs s t)) : gAt g (.gr n) (.inr "seed") = some (.int s) := by
  simp only [gAt, h, gS]; rfl
theorem at_turns {g : G} {n : Nat} {gs : List Int} {s t : Int} (h : g[n]? = some (gS gs s t)) : gAt g (.gr n) (.inr "turns") = some (.int t) := by
  simp only [gAt, h, gS]; rfl
theorem ncs_ints : ∀ gs : List Int, D.ncs (gs.map .int) = true
  | [] => rfl
  | g :: gs => by rw [List.map_cons, D.ncs, ncs_ints gs]; rfl
theorem put_great {g : G} {n : Nat} {gs gs' : List Int} {s t : Int} (h : g[n]? = some (gS gs s t)) : gPut g (.gr n) (.inr "great") (.lst (gs'.map .int)) = some (g.set n (gS gs' s t)) := by
  simp only [gPut, h, gS, D.nc, ncs_ints]; rfl
theorem put_turns {g : G} {n : Nat} {gs : List Int} {s t t' : Int} (h : g[n]? = some (gS gs s t)) : gPut g (.gr n) (.inr "turns") (.int t') = some (g.set n (gS gs s t')) := by
  simp only [gPut, h, gS, D.nc]; rfl
theorem cut1 (gs : List Int) : cutD (gs.map D.int) (some 1) none = (gs.drop 1).map D.int := by
  cases gs with
  | nil => rfl
  | cons a gs =>
    unfold cutD
    simp [HT.sIx]
    rw [List.take_of_length_le (by simp)]
theorem get_set {g : G} {n : Nat} {a b : GO} (h : g[n]? = some a) : (g.set n b)[n]? = some b := by
  obtain ⟨hl, _⟩ := List.getElem?_eq_some_iff.mp h
  rw [List.getElem?_set_self hl]
theorem set_same {g : G} {n : Nat} {a : GO} (h : g[n]? = some a) : g.set n a = g := by
  obtain ⟨hl, e⟩ := List.getElem?_eq_some_iff.mp h
  rw [← e]
  exact List.set_getElem_self hl
theorem atI_0 {α : Type} {a : α} {l : List α} : atI (a :: l) 0 = some a := by
  unfold atI ixN
  simp
/-! ### the parts of the draw -/
abbrev dGreat : ME := mGet (mVar 0) (.inr "great")
abbrev dT : MT := mAndT (mTst (mBin fNe dGreat (mNew (mItems (mNil))))) (mTst (mBin fEq (mBin fIx dGreat (mC (.int 0))) (mC (.int 0))))
abbrev dB : MS := mGPut 0 (.inr "great") (mSl dGreat (mPart (mC (.int 1))) (mNo))
section
variable {g : G} {n : Nat} {gs : List Int} {s t lim : Int} {x y : Slot}
abbrev dE (n : Nat) (lim : Int) (x y : Slot) : Ev := [.val (.gr n), .val (.int lim), x, y]
theorem ev_great (h : g[n]? = some (gS gs s t)) : dGreat (dE n lim x y) g = .ok (.lst (gs.map .int)) g := by
  show (liftO (gAt g (.gr n) (.inr "great")) g) = _
  rw [at_great h]; rfl
theorem ev_ne (h : g[n]? = some (gS gs s t)) : (mTst (mBin fNe dGreat (mNew (mItems (mNil))))) (dE n lim x y) g = .ok (!gs.isEmpty) g := by
  show R.bind (R.bind (dGreat (dE n lim x y) g) _) _ = _
  rw [ev_great h]
  show R.bind (liftO (fNe (.lst (gs.map .int)) (.lst [])) g) _ = _
  rw [fNe_nil]; rfl
theorem ev_first {a : Int} (h : g[n]? = some (gS (a :: gs) s t)) : (mBin fIx dGreat (mC (.int 0))) (dE n lim x y) g = .ok (.int a) g := by
  show R.bind (dGreat (dE n lim x y) g) _ = _
  rw [ev_great h]
  show liftO (atI (D.int a :: gs.map D.int) 0) g = _
  rw [atI_0]; rfl
theorem ev_t0 (h : g[n]? = some (gS [] s t)) : dT (dE n lim x y) g = .ok false g := by
  show R.bind ((mTst (mBin fNe dGreat (mNew (mItems (mNil))))) (dE n lim x y) g) _ = _
  rw [ev_ne h]; rfl
theorem ev_t1 {a : Int} (h : g[n]? = some (gS (a :: gs) s t)) : dT (dE n lim x y) g = .ok (a == 0) g := by
  show R.bind ((mTst (mBin fNe dGreat (mNew (mItems (mNil))))) (dE n lim x y) g) _ = _
  rw [ev_ne h]
  show R.bind (R.bind ((mBin fIx dGreat (mC (.int 0))) (dE n lim x y) g) _) _ = _
  rw [ev_first h]; rfl
theorem ev_rest (h : g[n]? = some (gS gs s t)) : (mSl dGreat (mPart (mC (.int 1))) (mNo)) (dE n lim x y) g = .ok (.lst ((gs.drop 1).map .int)) g := by
  show R.bind (dGreat (dE n lim x y) g) _ = _
  rw [ev_great h]
  show liftO (some (D.lst (cutD (gs.map D.int) (some 1) none))) g = _
  rw [cut1]; rfl
theorem ev_b (h : g[n]? = some (gS gs s t)) : dB (dE n lim x y) g = .ok (.nx, dE n lim x y) (g.set n (gS (gs.drop 1) s t)) := by
  show R.bind ((mSl dGreat (mPart (mC (.int 1))) (mNo)) (dE n lim x y) g) (fun v g1 => match gPut g1 (.gr n) (.inr "great") v with
    | some g2 => R.ok (Fl.nx, dE n lim x y) g2
    | none => .stuck) = _
  rw [ev_rest h]
  show (match gPut g (.gr n) (.inr "great") (.lst ((gs.drop 1).map .int)) with
    | some g2 => R.ok (Fl.nx, dE n lim x y) g2
    | none => .stuck) = _
  rw [put_great h]
theorem ev_while : ∀ (gs : List Int) (m : Nat) (g : G), gs.length < m → g[n]? = some (gS gs s t) → whileL dT dB m (dE n lim x y) g = .ok (.nx, dE n lim x y) (g.set n (gS (gs.dropWhile (· == 0)) s t))
  | [], m + 1, g, _, h => by
    rw [whileL, ev_t0 h]
    show R.ok _ g = _
    rw [List.dropWhile_nil, set_same h]
  | a :: gs, m + 1, g, hl, h => by
    rw [whileL, ev_t1 h]
    by_cases e : (a == 0) = true
    · show R.bind (.ok (a == 0) g) _ = _
      rw [e]
      show R.bind (dB (dE n lim x y) g) _ = _
      rw [ev_b h]
      show whileL dT dB m (dE n lim x y) (g.set n (gS gs s t)) = _
      rw [ev_while gs m _ (by simp only [List.length_cons] at hl; omega) (get_set h), List.set_set, List.dropWhile_cons, if_pos e]
    · have e' : (a == 0) = false := by simpa using e
      rw [e', List.dropWhile_cons, if_neg (by rw [e']; exact Bool.false_ne_true), set_same h]
      rfl
theorem ev_get {env : Ev} {k : Key} {d : D} (he : env[0]? = some (.val (.gr n))) (h : gAt g (.gr n) k = some d) : mGet (mVar 0) k env g = .ok d g := by
  unfold mGet mVar
  rw [he]
  show liftO (gAt g (.gr n) k) g = _
  rw [h]; rfl
theorem ev_bin {f : D → D → Option D} {ma mb : ME} {env : Ev} {a b d : D} {g1 g2 : G} (ha : ma env g = .ok a g1) (hb : mb env g1 = .ok b g2) (hf : f a b = some d) : mBin f ma mb env g = .ok d g2 := by
  unfold mBin
  rw [ha]
  show R.bind (mb env g1) _ = _
  rw [hb]
  show liftO (f a b) g2 = _
  rw [hf]; rfl
theorem ev_int1 {m : ME} {env : Ev} {i : Int} {g1 : G} (h : m env g = .ok (.int i) g1) : mBlt fInt1 (mCons m (mNil)) env g = .ok (.int i) g1 := by
  unfold mBlt mCons
  rw [h]; rfl
theorem fMul_r {i j : Int} (h : -(2 ^ 64) < j ∧ j < 2 ^ 64) : fMul (.int i) (.int j) = some (.int (i * j)) := by
  show (if (decide (-(2 ^ 64) < i) && decide (i < 2 ^ 64)) || (decide (-(2 ^ 64) < j) && decide (j < 2 ^ 64)) then some (D.int (i * j)) else none) = _
  rw [decide_eq_true h.1, decide_eq_true h.2, Bool.and_self, Bool.or_true, if_pos rfl]
theorem fMod_p {i j : Int} (h : 0 < j) : fMod (.int i) (.int j) = some (.int (i % j)) := by
  unfold fMod fInt
  simp [h]
theorem fDiv_p {i j : Int} (h : 0 < j) (h2 : j < 1073741824) : fDiv (.int i) (.int j) = some (.int (i / j)) := by
  unfold fDiv fInt
  simp [h, h2]
theorem ev_gput {i : Nat} {k : Key} {mv : ME} {env : Ev} {d v : D} {g1 g2 : G} (he : env[i]? = some (.val d)) (hv : mv env g = .ok v g1) (hp : gPut g1 d k v = some g2) : mGPut i k mv env g = .ok (.nx, env) g2 := by
  unfold mGPut
  rw [he]
  show R.bind (mv env g) _ = _
  rw [hv]
  show (match gPut g1 d k v with
    | some g2 => R.ok (Fl.nx, env) g2
    | none => .stuck) = _
  rw [hp]
theorem ev_asg {i : Nat} {m : ME} {env : Ev} {d : D} {g1 : G} (h : m env g = .ok d g1) : mAsg m (bName i) env g = .ok (.nx, env.set i (.val d)) g1 := by
  unfold mAsg
  rw [h]; rfl
theorem ev_seq {m1 m2 : MS} {env env1 : Ev} {g1 : G} (h : m1 env g = .ok (.nx, env1) g1) : mSeq m1 m2 env g = m2 env1 g1 := by
  unfold mSeq
  rw [h]; rfl
theorem ev_ret {m : ME} {env : Ev} {d : D} {g1 : G} (h : m env g = .ok d g1) : mRet m env g = .ok (.rt d, env) g1 := by
  unfold mRet
  rw [h]; rfl
abbrev dTurns : ME := mGet (mVar 0) (.inr "turns")
abbrev dEnd : MS := mSeq (mGPut 0 (.inr "turns") (mBin fAdd dTurns (mC (.int 1)))) (mSeq (mAsg (mBin fMod (mBlt fInt1 (mCons (mBin fAdd (mBin fAdd (mBin fMul (mGet (mVar 0) (.inr "seed")) (mC (.int 48271))) (mBin fMul (mBin fMul dTurns dTurns) (mC (.int 16807)))) dTurns) (mNil))) (mC (.int 2147483647))) (bName 2)) (mSeq (mAsg (mBin fMod (mBlt fInt1 (mCons (mBin fAdd (mBin fMul (mPk 2) (mC (.int 69621))) (mC (.int 12345))) (mNil))) (mC (.int 2147483629))) (bName 2)) (mRet (mBin fMod (mBin fDiv (mBin fMod (mBlt fInt1 (mCons (mBin fAdd (mBin fMul (mPk 2) (mC (.int 40014))) dTurns) (mNil))) (mC (.int 2147483563))) (mC (.int 64))) (mPk 1)))))
abbrev dGr : MS := mSeq (mAsg (mBin fIx dGreat (mC (.int 0))) (bName 3)) (mSeq (mGPut 0 (.inr "great") (mBin fAdd (mNew (mItems (mCons (mBin fDiv (mPk 3) (mPk 1)) (mNil)))) (mSl dGreat (mPart (mC (.int 1))) (mNo)))) (mRet (mBin fMod (mBlt fInt1 (mCons (mPk 3) (mNil))) (mPk 1))))
theorem ev_end (h : g[n]? = some (gS gs s t)) (ht : 0 ≤ t) (ht2 : t < 2 ^ 60) (hl : 0 < lim) : ∃ r env, dEnd (dE n lim x y) g = .ok (.rt (.int r), env) (g.set n (gS gs s (t + 1))) ∧ 0 ≤ r ∧ r < lim := by
  have e0 : (dE n lim x y)[0]? = some (.val (.gr n)) := rfl
  have h1 : (g.set n (gS gs s (t + 1)))[n]? = some (gS gs s (t + 1)) := get_set h
  have tr : -(2 ^ 64) < t + 1 ∧ t + 1 < 2 ^ 64 := by omega
  obtain ⟨g1, eg1⟩ : ∃ g1, g1 = g.set n (gS gs s (t + 1)) := ⟨_, rfl⟩
  rw [← eg1] at h1 ⊢
  have tn : ∀ env : Ev, env[0]? = some (.val (.gr n)) → dTurns env g1 = .ok (.int (t + 1)) g1 := fun env he => ev_get he (at_turns h1)
  have A1 : mGPut 0 (.inr "turns") (mBin fAdd dTurns (mC (.int 1))) (dE n lim x y) g = .ok (.nx, dE n lim x y) g1 := by
    rw [eg1]
    exact ev_gput e0 (ev_bin (ev_get e0 (at_turns h)) rfl rfl) (put_turns h)
  obtain ⟨a, ea⟩ : ∃ a, a = (s * 48271 + (t + 1) * (t + 1) * 16807 + (t + 1)) % 2147483647 := ⟨_, rfl⟩
  have A2 : mAsg (mBin fMod (mBlt fInt1 (mCons (mBin fAdd (mBin fAdd (mBin fMul (mGet (mVar 0) (.inr "seed")) (mC (.int 48271))) (mBin fMul (mBin fMul dTurns dTurns) (mC (.int 16807)))) dTurns) (mNil))) (mC (.int 2147483647))) (bName 2) (dE n lim x y) g1 = .ok (.nx, dE n lim (.val (.int a)) y) g1 := by
    rw [ea]
    exact ev_asg (ev_bin (ev_int1 (ev_bin (ev_bin (ev_bin (ev_get e0 (at_seed h1)) rfl (fMul_r (by omega))) (ev_bin (ev_bin (tn _ e0) (tn _ e0) (fMul_r tr)) rfl (fMul_r (by omega))) rfl) (tn _ e0) rfl)) rfl (fMod_p (by omega)))
  obtain ⟨b, eb⟩ : ∃ b, b = (a * 69621 + 12345) % 2147483629 := ⟨_, rfl⟩
  have A3 : mAsg (mBin fMod (mBlt fInt1 (mCons (mBin fAdd (mBin fMul (mPk 2) (mC (.int 69621))) (mC (.int 12345))) (mNil))) (mC (.int 2147483629))) (bName 2) (dE n lim (.val (.int a)) y) g1 = .ok (.nx, dE n lim (.val (.int b)) y) g1 := by
    rw [eb]
    exact ev_asg (ev_bin (ev_int1 (ev_bin (ev_bin (show mPk 2 (dE n lim (.val (.int a)) y) g1 = .ok (.int a) g1 from rfl) rfl (fMul_r (by omega))) rfl rfl)) rfl (fMod_p (by omega)))
  have e1 : (dE n lim (.val (.int b)) y)[0]? = some (.val (.gr n)) := rfl
  have A4 := ev_ret (ev_bin (ev_bin (ev_bin (ev_int1 (ev_bin (ev_bin (show mPk 2 (dE n lim (.val (.int b)) y) g1 = .ok (.int b) g1 from rfl) (show mC (.int 40014) _ g1 = .ok (.int 40014) g1 from rfl) (fMul_r (by omega))) (tn _ e1) (show fAdd (.int (b * 40014)) (.int (t + 1)) = some (.int (b * 40014 + (t + 1))) from rfl))) (show mC (.int 2147483563) _ g1 = .ok (.int 2147483563) g1 from rfl) (fMod_p (by omega))) (show mC (.int 64) _ g1 = .ok (.int 64) g1 from rfl) (fDiv_p (by omega) (by omega))) (show mPk 1 (dE n lim (.val (.int b)) y) g1 = .ok (.int lim) g1 from rfl) (fMod_p hl))
  refine ⟨_, dE n lim (.val (.int b)) y, ?_, Int.emod_nonneg ((b * 40014 + (t + 1)) % 2147483563 / 64) (Int.ne_of_gt hl), Int.emod_lt_of_pos _ hl⟩
  exact (ev_seq A1).trans ((ev_seq A2).trans ((ev_seq A3).trans A4))
theorem fAdd_lst {xs ys : List D} (h : xs.length + ys.length ≤ 1000000) : fAdd (.lst xs) (.lst ys) = some (.lst (xs ++ ys)) := by
  show (if xs.length + ys.length ≤ 1000000 then some (D.lst (xs ++ ys)) else none) = _
  rw [if_pos h]
theorem ev_gr {a : Int} (h : g[n]? = some (gS (a :: gs) s t)) (hg : gs.length ≤ 1000) (hl : 0 < lim) (hl2 : lim < 1073741824) : ∃ r env, dGr (dE n lim x y) g = .ok (.rt (.int r), env) (g.set n (gS (a / lim :: gs) s t)) ∧ 0 ≤ r ∧ r < lim := by
  have e0 : (dE n lim x (.val (.int a)))[0]? = some (.val (.gr n)) := rfl
  have A1 : mAsg (mBin fIx dGreat (mC (.int 0))) (bName 3) (dE n lim x y) g = .ok (.nx, dE n lim x (.val (.int a))) g := ev_asg (ev_first h)
  have q : (mNew (mItems (mCons (mBin fDiv (mPk 3) (mPk 1)) (mNil)))) (dE n lim x (.val (.int a))) g = .ok (.lst [.int (a / lim)]) g := by
    have z : mBin fDiv (mPk 3) (mPk 1) (dE n lim x (.val (.int a))) g = .ok (.int (a / lim)) g := ev_bin (show mPk 3 _ g = .ok (.int a) g from rfl) (show mPk 1 _ g = .ok (.int lim) g from rfl) (fDiv_p hl hl2)
    unfold mNew mItems mCons
    rw [z]; rfl
  have A2 : mGPut 0 (.inr "great") (mBin fAdd (mNew (mItems (mCons (mBin fDiv (mPk 3) (mPk 1)) (mNil)))) (mSl dGreat (mPart (mC (.int 1))) (mNo))) (dE n lim x (.val (.int a))) g = .ok (.nx, dE n lim x (.val (.int a))) (g.set n (gS (a / lim :: gs) s t)) :=
    ev_gput e0 (ev_bin q (ev_rest h) (fAdd_lst (by simp; omega))) (put_great (gs' := a / lim :: gs) h)
  refine ⟨_, _, (ev_seq A1).trans ((ev_seq A2).trans (ev_ret (ev_bin (ev_int1 (show mPk 3 (dE n lim x (.val (.int a))) (g.set n (gS (a / lim :: gs) s t)) = .ok (.int a) _ from rfl)) (show mPk 1 _ _ = .ok (.int lim) _ from rfl) (fMod_p hl)))), Int.emod_nonneg _ (Int.ne_of_gt hl), Int.emod_lt_of_pos _ hl⟩
/-- a draw below lim -/
theorem draw_ok (h : g[n]? = some (gS gs s t)) (hg : gs.length ≤ 69) (ht : 0 ≤ t) (ht2 : t < 2 ^ 60) (hl : 0 < lim) (hl2 : lim < 1073741824) :
    ∃ r gs' t', mDraw [.gr n, .int lim] g = .ok (.int r) (g.set n (gS gs' s t')) ∧ 0 ≤ r ∧ r < lim ∧ gs'.length ≤ gs.length ∧ t ≤ t' ∧ t' ≤ t + 1 := by
  have hw := ev_while (n := n) (s := s) (t := t) (lim := lim) (x := .no) (y := .no) gs 70 g (by omega) h
  obtain ⟨gs1, e1⟩ : ∃ gs1, gs1 = gs.dropWhile (· == 0) := ⟨_, rfl⟩
  have l1 : gs1.length ≤ gs.length := by rw [e1]; exact (List.dropWhile_sublist _).length_le
  rw [← e1] at hw
  have h1 : (g.set n (gS gs1 s t))[n]? = some (gS gs1 s t) := get_set h
  have un : mDraw [.gr n, .int lim] g = (match mSeq (mWhile 70 dT dB) (mSeq (mIfS (mTst (mBin fNe dGreat (mNew (mItems (mNil))))) dGr (mSkip)) dEnd) (dE n lim .no .no) g with
    | .ok (.nx, _) g1 => .ok .non g1
    | .ok (.rt d, _) g1 => .ok d g1
    | .ok (.bk, _) _ => .stuck
    | .ok (.ct, _) _ => .stuck
    | .exc c fs g1 => .exc c fs g1
    | .stuck => .stuck) := rfl
  rw [un, ev_seq (show mWhile 70 dT dB (dE n lim .no .no) g = _ from hw)]
  cases gs1 with
  | nil =>
    have A : mIfS (mTst (mBin fNe dGreat (mNew (mItems (mNil))))) dGr (mSkip) (dE n lim .no .no) (g.set n (gS [] s t)) = .ok (.nx, dE n lim .no .no) (g.set n (gS [] s t)) := by
      unfold mIfS
      rw [ev_ne h1]; rfl
    obtain ⟨r, env, e2, r1, r2⟩ := ev_end (x := .no) (y := .no) h1 ht ht2 hl
    rw [ev_seq A, e2]
    exact ⟨r, [], t + 1, by rw [List.set_set], r1, r2, by simp, by omega, by omega⟩
  | cons a gs2 =>
    obtain ⟨r, env, e2, r1, r2⟩ := ev_gr (x := .no) (y := .no) h1 (by simp only [List.length_cons] at l1; omega) hl hl2
    have A : mIfS (mTst (mBin fNe dGreat (mNew (mItems (mNil))))) dGr (mSkip) (dE n lim .no .no) (g.set n (gS (a :: gs2) s t)) = .ok (.rt (.int r), env) ((g.set n (gS (a :: gs2) s t)).set n (gS (a / lim :: gs2) s t)) := by
      unfold mIfS
      rw [ev_ne h1]
      exact e2
    have B : mSeq (mIfS (mTst (mBin fNe dGreat (mNew (mItems (mNil))))) dGr (mSkip)) dEnd (dE n lim .no .no) (g.set n (gS (a :: gs2) s t)) = .ok (.rt (.int r), env) ((g.set n (gS (a :: gs2) s t)).set n (gS (a / lim :: gs2) s t)) := by
      show R.bind (mIfS (mTst (mBin fNe dGreat (mNew (mItems (mNil))))) dGr (mSkip) (dE n lim .no .no) (g.set n (gS (a :: gs2) s t))) _ = _
      rw [A]; rfl
    rw [B]
    exact ⟨r, a / lim :: gs2, t, by rw [List.set_set], r1, r2, l1, by omega, by omega⟩
end
/-! ### the beginning -/
abbrev bBody : MS := mAsg (mBin fMod (mBlt fInt1 (mCons (mBin fAdd (mBin fAdd (mBin fMul (mPk 1) (mC (.int 69621))) (mBin fMod (mBlt fInt1 (mCons (mPk 2) (mNil))) (mC (.int 2147483629)))) (mC (.int 7))) (mNil))) (mC (.int 2147483647))) (bName 1)
theorem ev_begun {S : List Int} {g : G} : ∀ (ns : List Int) (s : Int) (x : Slot), ∃ y, forL (bName 2) bBody (ns.map .int) [.val (.scr S), .val (.int s), x] g = .ok (.nx, [.val (.scr S), .val (.int (seedOf s ns)), y]) g
  | [], s, x => ⟨x, rfl⟩
  | n :: ns, s, x => by
    obtain ⟨y, e⟩ := ev_begun (S := S) (g := g) ns ((s * 69621 + n % 2147483629 + 7) % 2147483647) (.val (.int n))
    refine ⟨y, ?_⟩
    have A : bBody [.val (.scr S), .val (.int s), .val (.int n)] g = .ok (.nx, [.val (.scr S), .val (.int ((s * 69621 + n % 2147483629 + 7) % 2147483647)), .val (.int n)]) g :=
      ev_asg (ev_bin (ev_int1 (ev_bin (ev_bin (ev_bin (show mPk 1 _ g = .ok (.int s) g from rfl) (show mC (.int 69621) _ g = .ok (.int 69621) g from rfl) (fMul_r (by omega))) (ev_bin (ev_int1 (show mPk 2 _ g = .ok (.int n) g from rfl)) (show mC (.int 2147483629) _ g = .ok (.int 2147483629) g from rfl) (fMod_p (by omega))) (show fAdd (.int (s * 69621)) (.int (n % 2147483629)) = some (.int (s * 69621 + n % 2147483629)) from rfl)) (show mC (.int 7) _ g = .ok (.int 7) g from rfl) (show fAdd (.int (s * 69621 + n % 2147483629)) (.int 7) = some (.int (s * 69621 + n % 2147483629 + 7)) from rfl))) (show mC (.int 2147483647) _ g = .ok (.int 2147483647) g from rfl) (fMod_p (by omega)))
    show R.bind (bBody [.val (.scr S), .val (.int s), .val (.int n)] g) _ = _
    rw [A]
    exact e
abbrev bT : MT := mTst (mBin fGe (mPk 2) (mBin fPow (mC (.int 10)) (mC (.int 18))))
theorem ev_great0 {S : List Int} {g : G} {z : Slot} : ∀ ns : List Int, compL (bName 2) bT (mVar 2) [.val (.scr S), z, .no] (ns.map .int) g = .ok ((ns.filter fun n => decide (10 ^ 18 ≤ n)).map .int) g
  | [] => rfl
  | n :: ns => by
    rw [List.map_cons, compL]
    have A : bT [.val (.scr S), z, .val (.int n)] g = .ok (decide (10 ^ 18 ≤ n)) g := rfl
    show R.bind (R.nox (bT [.val (.scr S), z, .val (.int n)] g)) _ = _
    rw [A]
    by_cases h : (10 ^ 18 : Int) ≤ n
    · have h' : decide ((10 : Int) ^ 18 ≤ n) = true := decide_eq_true h
      rw [List.filter_cons_of_pos (p := fun n => decide ((10 : Int) ^ 18 ≤ n)) (a := n) h', h']
      show R.bind (compL (bName 2) bT (mVar 2) [.val (.scr S), z, .no] (ns.map .int) g) _ = _
      rw [ev_great0 ns]; rfl
    · have h' : decide ((10 : Int) ^ 18 ≤ n) = false := decide_eq_false h
      rw [List.filter_cons_of_neg (p := fun n => decide ((10 : Int) ^ 18 ≤ n)) (a := n) (by rw [h']; exact Bool.false_ne_true), h']
      exact ev_great0 ns
theorem begun_ok (ns : List Int) (g : G) : mBegun [.scr ns] g = .ok (.gr g.length) (g ++ [gS (ns.filter fun n => decide (10 ^ 18 ≤ n)) (seedOf 11 ns) 0]) := by
  obtain ⟨y, e⟩ := ev_begun (S := ns) (g := g) ns 11 .no
  have un : mBegun [.scr ns] g = (match mSeq (mAsg (mC (.int 11)) (bName 1)) (mSeq (mFor (mItL (mVar 0)) (bName 2) bBody) (mRet (mDisp [(.inr "great", mNew (mComp [2] (mItL (mVar 0)) (bName 2) bT (mVar 2))), (.inr "seed", mVar 1), (.inr "turns", mC (.int 0))]))) [.val (.scr ns), .no, .no] g with
    | .ok (.nx, _) g1 => .ok .non g1
    | .ok (.rt d, _) g1 => .ok d g1
    | .ok (.bk, _) _ => .stuck
    | .ok (.ct, _) _ => .stuck
    | .exc c fs g1 => .exc c fs g1
    | .stuck => .stuck) := rfl
  have A1 : mAsg (mC (.int 11)) (bName 1) [.val (.scr ns), .no, .no] g = .ok (.nx, [.val (.scr ns), .val (.int 11), .no]) g := rfl
  have A2 : mFor (mItL (mVar 0)) (bName 2) bBody [.val (.scr ns), .val (.int 11), .no] g = .ok (.nx, [.val (.scr ns), .val (.int (seedOf 11 ns)), y]) g := e
  have A3 : mNew (mComp [2] (mItL (mVar 0)) (bName 2) bT (mVar 2)) [.val (.scr ns), .val (.int (seedOf 11 ns)), y] g = .ok (.lst ((ns.filter fun n => decide (10 ^ 18 ≤ n)).map .int)) g := by
    show R.bind (compL (bName 2) bT (mVar 2) [.val (.scr ns), .val (.int (seedOf 11 ns)), .no] (ns.map .int) g) _ = _
    rw [ev_great0]; rfl
  have A4 : mDisp [(.inr "great", mNew (mComp [2] (mItL (mVar 0)) (bName 2) bT (mVar 2))), (.inr "seed", mVar 1), (.inr "turns", mC (.int 0))] [.val (.scr ns), .val (.int (seedOf 11 ns)), y] g = .ok (.gr g.length) (g ++ [gS (ns.filter fun n => decide (10 ^ 18 ≤ n)) (seedOf 11 ns) 0]) := by
    unfold mDisp
    rw [dispL, A3]
    show (if _ ∧ D.ncs [D.lst ((ns.filter fun n => decide (10 ^ 18 ≤ n)).map .int), .int (seedOf 11 ns), .int 0] = true then _ else _) = _
    rw [if_pos]
    · rfl
    · refine ⟨by simp, ?_⟩
      simp only [D.ncs, D.nc, ncs_ints, Bool.and_self]
  rw [un, ev_seq A1, ev_seq A2, ev_ret A4]
theorem ev_fn {n : Nat} {F : List D → G → R D} {ms : MA} {env : Ev} {g g1 g2 : G} {ds : List D} {d : D} (hm : ms env g = .ok ds g1) (hn : ds.length = n) (h : F ds g1 = .ok d g2) : mFn n F ms env g = .ok d g2 := by
  unfold mFn
  rw [hm]
  show (if ds.length = n then F ds g1 else .stuck) = _
  rw [if_pos hn, h]
theorem ev_and {ma mb : ME} {env : Ev} {g g1 g2 : G} {d : D} (ha : ma env g = .ok (.bl true) g1) (hb : mb env g1 = .ok d g2) : mAndV ma mb env g = .ok d g2 := by
  unfold mAndV
  rw [ha]
  exact hb
theorem ev_tst {m : ME} {env : Ev} {g g1 : G} {b : Bool} (h : m env g = .ok (.bl b) g1) : mTst m env g = .ok b g1 := by
  unfold mTst
  rw [h]; rfl
theorem ev_def {n : Nat} {m : MS} {ds : List D} {g g1 : G} {d : D} {e : Ev} (h : m (ev0 n ds) g = .ok (.rt d, e) g1) : mDef n m ds g = .ok d g1 := by
  unfold mDef
  rw [h]
theorem ev_seqR {m1 m2 : MS} {env e : Ev} {g g1 : G} {d : D} (h : m1 env g = .ok (.rt d, e) g1) : mSeq m1 m2 env g = .ok (.rt d, e) g1 := by
  unfold mSeq
  rw [h]; rfl
theorem ev_ifT {c : MT} {m1 m2 : MS} {env : Ev} {g g1 : G} (h : c env g = .ok true g1) : mIfS c m1 m2 env g = m1 env g1 := by
  unfold mIfS
  rw [h]; rfl
theorem ev_ifF {c : MT} {m1 m2 : MS} {env : Ev} {g g1 : G} (h : c env g = .ok false g1) : mIfS c m1 m2 env g = m2 env g1 := by
  unfold mIfS
  rw [h]; rfl
end GT

/-! GtV: a walk over a list or a tuple, whichever it is. -/
namespace GT
open PySem PySem.Spec PyProof.Rows L2 RZ
def iSeq (K : PySem.W.Frag) (tl : TE) : TI := fun σ H R => tl σ H fun x H1 => ∃ a, x = .ref a ∧ (((∃ xs, SqL K H1 a xs) ∧ R (Itl K a) H1) ∨ ((∃ xs, SqT K H1 a xs) ∧ R (Itt K a) H1))
theorem pi_seq {X : Cx} {tg l : Expr} {tl : TE} (hl : PE X l tl) : PI X tg l (iSeq X.K tl) := ⟨fun pins s σ H R I h =>
  thn (hl.run pins s σ H _ I h) fun v s1 ⟨x, H1, I1, r1, a, e, q1⟩ => by
    subst e
    obtain rfl : v = Value.ref a := r1
    have fp : ∀ b ∈ [s1.heap.objs.size], FpOk X pins H1 b := fun b hb => by
      obtain rfl := List.mem_singleton.mp hb
      exact I1.fpOk (Nat.le_refl _) (I1.hok.fresh (Nat.le_refl _))
    rcases q1 with ⟨⟨xs, hq⟩, q⟩ | ⟨⟨xs, hq⟩, q⟩
    · obtain ⟨its, rv, p, hz⟩ := I1.list hq
      exact wpAny_pyIter_list p.isList ⟨s1.heap.objs.size, [s1.heap.objs.size], _, _, H1, rfl, I1.kept (t' := s1.toks) (fun b o e => Heap.get?_push_of_some _ e), turn_list a _, ⟨_, Heap.get?_push_size _ rfl, rfl, rfl⟩, fp, q⟩
    · obtain ⟨its, rv, p, hz⟩ := I1.tuple hq
      exact wpAny_pyIter_tuple (show s1.heap.IsTuple a its.toArray from p) ⟨s1.heap.objs.size, [s1.heap.objs.size], _, _, H1, rfl, I1.kept (t' := s1.toks) (fun b o e => Heap.get?_push_of_some _ e), turn_tuple a _, ⟨_, Heap.get?_push_size _ rfl, rfl, rfl⟩, fp, q⟩⟩
def mItA (m : ME) : MI := fun env g => (m env g).bind fun d g1 => match d with
  | .lst ds => .ok ds g1
  | .tup ds => .ok ds g1
  | .scr ns => .ok (ns.map .int) g1
  | _ => .stuck
section
variable {X : Cx} {C : Cst} {Wx : WX}
theorem si_any {e tg : Expr} {m : ME} (hK : C.K = X.K) (he : PE X e (RE C Wx m)) : PI X tg e (RI C Wx (mItA m)) := PIm (pi_seq he) fun σ H Q h => by
  obtain ⟨W, env, oas, g, r, S, P⟩ := h
  refine ⟨W, env, oas, g, r, S, Post.mono (Post.split P) fun v H1 ⟨d, g1, r1, b1, s1, p1, q1⟩ => ?_⟩
  rw [← hK]
  cases d with
  | lst ds =>
    cases p1 with
    | lst h hz hr hw q => exact ⟨_, rfl, .inl ⟨⟨_, .inl (.inl h)⟩, Post.here (d := ds) (g := g1) q1 b1 (itr_at hz q walk_list fun r' W' H' k => .inl (.inl (k.ext _ _ h hr hw (fun _ z => by cases z))))⟩⟩
  | tup ds =>
    cases p1 with
    | tup h hz hr hw q => exact ⟨_, rfl, .inr ⟨⟨_, .inl (.inl h)⟩, Post.here (d := ds) (g := g1) q1 b1 (itr_at hz q walk_tup fun r' W' H' k => .inl (.inl (k.ext _ _ h hr hw (fun _ z => by cases z))))⟩⟩
  | scr ns =>
    cases p1 with
    | scr h hz hr hw =>
      exact ⟨_, rfl, .inl ⟨⟨_, .inl h⟩, Post.here (d := ns.map D.int) (g := g1) q1 b1 (itr_at (by rw [List.length_map]; exact hz) (RpL.ints ns) walk_list fun r' W' H' k => .inl (Rd.keep h (fun _ z => by cases z) fun u e n => k.ext _ u e hr hw n))⟩⟩
    | scrK h1 h2 h3 h4 h5 h6 =>
      have hz : (ns.map V.int).length ≤ sizeLine := by
        rw [h6.length, Array.length_toList]; exact h5
      exact ⟨_, rfl, .inl ⟨⟨_, .inr ⟨_, _, _, h1, h2, h3, h4, h5, h6⟩⟩, Post.here (d := ns.map D.int) (g := g1) q1 b1 (itr_at hz (RpL.ints ns) walk_list fun r' W' H' k => .inr ⟨_, _, _, h1, h2, h3, h4, h5, h6⟩)⟩⟩
  | _ => exact q1.elim
theorem fr_itA {m : ME} (h : FrE m) : FrE (mItA m) := fun env => Fr.bind (h env) fun d => by cases d <;> first | exact Fr.ok | exact Fr.st
end
end GT

namespace KX
open PySem PySem.Spec PyProof.Rows L2 RZ GT
def top (i : Nat) : Stmt := PySem.Challenge.pw_gaptrains_k10_clear_by_hand.main.body.getD i (.Pass ⟨0, 0, 0, 0⟩)
/-- what the top has left of the built-ins and the numbers and texts of the module -/
structure Tx (mg : Str → Option Value) : Prop where
  b_isinstance : mg "isinstance" = none
  b_int : mg "int" = none
  b_bool : mg "bool" = none
  b_tuple : mg "tuple" = none
  b_len : mg "len" = none
  b_list : mg "list" = none
  b_range : mg "range" = none
  b_max : mg "max" = none
  b_min : mg "min" = none
  b_all : mg "all" = none
  b_zip : mg "zip" = none
  b_str : mg "str" = none
  b_enumerate : mg "enumerate" = none
  b_sorted : mg "sorted" = none
  c_LOOKS : ∃ t, mg "LOOKS" = some (.int 4 t)
  c_TOP : ∃ t, mg "TOP" = some (.int 0 t)
  c_LEAST : ∃ t, mg "LEAST" = some (.int 3 t)
  c_MOST_TOP : ∃ t, mg "MOST_TOP" = some (.int 3 t)
  c_MOST_LEAST : ∃ t, mg "MOST_LEAST" = some (.int 9 t)
  c_DOWN : ∃ t, mg "DOWN" = some (.int 2 t)
  c_UP : ∃ t, mg "UP" = some (.int 1 t)
  c_LATE : ∃ t, mg "LATE" = some (.int 6 t)
  c_CLEAR : ∃ t, mg "CLEAR" = some (.str "clear" t)
  c_CRASH : ∃ t, mg "CRASH" = some (.str "crash" t)
  c_RULES : ∃ t, mg "RULES" = some (.int 5 t)
  c_PARTS : ∃ t, mg "PARTS" = some (.int 7 t)
  c_MOST_ROWS : ∃ t, mg "MOST_ROWS" = some (.int 6 t)
  c_MOST_LOOKS : ∃ t, mg "MOST_LOOKS" = some (.int 6 t)
abbrev s_is_whole : Stmt := top 17
abbrev s_is_tuple_of : Stmt := top 18
abbrev s_follows_in : Stmt := top 19
abbrev s_is_choice : Stmt := top 20
abbrev s_is_row : Stmt := top 21
abbrev s_first_fault : Stmt := top 22
abbrev s_numbers_fault : Stmt := top 23
abbrev s_book_fault : Stmt := top 24
abbrev s_need_book : Stmt := top 25
abbrev s_far_in : Stmt := top 26
abbrev s_aspect_in : Stmt := top 27
abbrev s_followers : Stmt := top 28
abbrev s_is_standing_in : Stmt := top 30
abbrev s_standings_to : Stmt := top 31
abbrev s_aspect_seen : Stmt := top 32
abbrev s_choices_in : Stmt := top 33
abbrev s_steps_in : Stmt := top 34
abbrev s_leads_in : Stmt := top 35
abbrev s_leads_by : Stmt := top 36
abbrev s_is_step_in : Stmt := top 37
abbrev s_is_start : Stmt := top 38
abbrev s_is_start_by : Stmt := top 39
abbrev s_starts_by : Stmt := top 40
abbrev s_starts_in : Stmt := top 41
abbrev s_coming_in : Stmt := top 42
abbrev s_capped : Stmt := top 49
abbrev s_moved : Stmt := top 50
abbrev s_crash_steps : Stmt := top 51
abbrev s_crash_in : Stmt := top 52
abbrev s_exact_start : Stmt := top 53
abbrev s_crash_paper : Stmt := top 54
abbrev s_is_clear : Stmt := top 55
abbrev s_fewest_steps : Stmt := top 56
abbrev s_clear_paper : Stmt := top 57
abbrev s_is_closed : Stmt := top 58
abbrev s_need_form : Stmt := top 59
abbrev s_check_crash : Stmt := top 60
abbrev s_check_clear : Stmt := top 61
abbrev s__law_begun : Stmt := top 63
abbrev s__law_draw : Stmt := top 64
abbrev s__law_of : Stmt := top 65
abbrev s__law_books : Stmt := top 66
abbrev s_law : Stmt := top 67
def noLam : Lam := ⟨⟨[], [], none, [], [], none, []⟩, noE, ⟨.function, [], false, false, []⟩, "", []⟩
def lam_0 : Lam := (lamAt "book_fault.<locals>.<lambda>" s_book_fault [4] [4]).getD noLam
def lam_1 : Lam := (lamAt "book_fault.<locals>.<lambda>" s_book_fault [7] [4]).getD noLam
def Lt : Nat → Lam := fun n => match n with
  | 0 => lam_0
  | 1 => lam_1
  | _ => noLam
abbrev N_is_whole : List Str := ["thing", "least", "most"]
abbrev N_is_tuple_of : List Str := ["thing", "least", "most"]
abbrev N_follows_in : List Str := ["top", "up", "down", "speed"]
abbrev N_far_in : List Str := ["book"]
abbrev N_aspect_in : List Str := ["book", "gap"]
abbrev N_standings_to : List Str := ["book", "far", "found", "gap", "own", "ahead"]
abbrev N_leads_by : List Str := ["standing", "step", "far", "own", "ahead", "later", "gap"]
abbrev N_is_start_by : List Str := ["book", "standing", "far", "gap", "own", "ahead"]
abbrev N_moved : List Str := ["standing", "step"]
abbrev N__law_begun : List Str := ["_law_script", "_law_seed", "_law_cell"]
abbrev N__law_draw : List Str := ["_law_m", "_law_limit", "_law_mixed", "_law_cell"]
abbrev N__law_books : List Str := ["_law_row", "_law_stop", "_law_found", "_law_free", "_law_brake", "_law_hard"]
abbrev N_is_choice : List Str := ["some", "thing", "one", "other"]
abbrev N_numbers_fault : List Str := ["thing", "top", "up", "down", "least"]
abbrev N_followers : List Str := ["book", "speed"]
abbrev N_is_standing_in : List Str := ["book", "thing", "speed"]
abbrev N_aspect_seen : List Str := ["book", "standing", "gap", "own", "ahead"]
abbrev N_leads_in : List Str := ["book", "standing", "step"]
abbrev N_is_start : List Str := ["book", "standing"]
abbrev N_starts_by : List Str := ["book", "far", "standing"]
abbrev N_capped : List Str := ["book", "standing"]
abbrev N_exact_start : List Str := ["book", "first", "pairs", "step", "later"]
abbrev N_need_form : List Str := ["paper", "one"]
abbrev N_is_row : List Str := ["top", "up", "down", "thing", "speed", "some"]
abbrev N_choices_in : List Str := ["book", "standing"]
abbrev N_starts_in : List Str := ["book"]
abbrev N_steps_in : List Str := ["book", "standing", "ways", "own", "ahead"]
abbrev N_first_fault : List Str := ["part", "thing", "most", "is_good", "wrong", "number", "one"]
abbrev N_is_step_in : List Str := ["book", "standing", "step", "one"]
abbrev N_coming_in : List Str := ["book", "found", "waiting", "standing", "step", "later"]
abbrev N_crash_steps : List Str := ["book", "standing", "step"]
abbrev N_is_closed : List Str := ["book", "table", "known", "standing", "step", "later", "one", "other", "far"]
abbrev N_book_fault : List Str := ["thing", "found", "top", "up", "down", "rows"]
abbrev N_crash_in : List Str := ["book", "known", "layer", "standing", "later", "step", "far"]
abbrev N_need_book : List Str := ["thing", "wrong"]
abbrev N_crash_paper : List Str := ["book", "found", "first", "pairs", "step", "later"]
abbrev N_check_crash : List Str := ["book", "standing", "row", "number", "step", "found"]
abbrev N_is_clear : List Str := ["book"]
abbrev N_fewest_steps : List Str := ["book", "found"]
abbrev N_clear_paper : List Str := ["book", "found"]
abbrev N_check_clear : List Str := ["book", "paper"]
abbrev N_law : List Str := ["_law_script", "_law_m", "_law_some", "_law_begin", "_law_book", "_law_due", "_law_paper"]
theorem sc_is_whole : FnScope N_is_whole ["thing", "least", "most"] (defScope s_is_whole) := ⟨rfl, rfl, rfl, by decide +kernel, rfl, by decide +kernel, by decide +kernel⟩
def m_is_whole : List D → G → R D := mDef 3 (mSeq (mIfS (mOrT (mNotT (mTst (mIsi tabInt (mPk 0)))) (mOrT (mTst (mIsi tabBool (mPk 0))) (mTst (mBin fLt (mPk 0) (mPk 1))))) (mRet (mC (.bl false))) (mSkip)) (mRet (mOrV (mBin fIsN (mPk 2) (mC .non)) (mBin fLe (mPk 0) (mPk 2)))))
theorem ok_is_whole {P : Program} {w : World} {K : PySem.W.Frag} {mg : Str → Option Value} {base : Heap} {Tb : List (Addr × Str)} (T : Tx mg) (F : At K mg "is_whole" s_is_whole) : Cal P w base ⟨K, mg, Lt, Tb⟩ "is_whole" 1 ["thing", "least", "most"] m_is_whole := by
  have b_isinstance := T.b_isinstance
  have b_int := T.b_int
  have b_bool := T.b_bool
  refine cal_of (k := 0) F sc_is_whole (fun _ _ _ _ _ _ us hl => match us, hl with | [_, _, _], _ => rfl) fun f cdv A outer s H E hr => ?_
  exact ss_cons (ss_if (PW.pt (st_or (st_not (st_val (se_isi rfl tabInt_ok (sp_var 0) rfl b_isinstance rfl b_int bb_int))) (st_or (st_val (se_isi rfl tabBool_ok (sp_var 0) rfl b_isinstance rfl b_bool bb_bool)) (st_or1 (st_cmp (op_ltA (hu0 hr)) os_lt.s (sp_var 0) (sp_var 1)))))) (ss_one (ss_ret (se_bl))) (ss_nil)) (ss_one (ss_ret (se_or (se_cmp op_isN os_isN.s (sp_var 2) (sp_of (se_non))) (se_one (se_cmp op_le (os_cmpI _).s (sp_var 0) (sp_var 2))))))
theorem sc_is_tuple_of : FnScope N_is_tuple_of ["thing", "least", "most"] (defScope s_is_tuple_of) := ⟨rfl, rfl, rfl, by decide +kernel, rfl, by decide +kernel, by decide +kernel⟩
def m_is_tuple_of : List D → G → R D := mDef 3 (mRet (mAndV (mIsi tabTuple (mPk 0)) (mChain fLe fLe (mPk 1) (mBlt fLen (mCons (mPk 0) (mNil))) (mPk 2))))
theorem ok_is_tuple_of {P : Program} {w : World} {K : PySem.W.Frag} {mg : Str → Option Value} {base : Heap} {Tb : List (Addr × Str)} (T : Tx mg) (F : At K mg "is_tuple_of" s_is_tuple_of) : Cal P w base ⟨K, mg, Lt, Tb⟩ "is_tuple_of" 1 ["thing", "least", "most"] m_is_tuple_of := by
  have b_isinstance := T.b_isinstance
  have b_tuple := T.b_tuple
  have b_len := T.b_len
  refine cal_of (k := 0) F sc_is_tuple_of (fun _ _ _ _ _ _ us hl => match us, hl with | [_, _, _], _ => rfl) fun f cdv A outer s H E hr => ?_
  exact ss_one (ss_ret (se_and (se_isi rfl tabTuple_ok (sp_var 0) rfl b_isinstance rfl b_tuple bb_tuple) (se_one (se_chain op_le (os_cmpI _) op_le (os_cmpI _) (sp_var 1) (sp_of (se_blt call_lenA cs_len rfl b_len bb_len (pa_consP (sp_var 0) (pa_nilP)))) (sp_var 2)))))
theorem sc_follows_in : FnScope N_follows_in ["top", "up", "down", "speed"] (defScope s_follows_in) := ⟨rfl, rfl, rfl, by decide +kernel, rfl, by decide +kernel, by decide +kernel⟩
def m_follows_in : List D → G → R D := mDef 4 (mRet (mLstI (mRg2 (mBlt fMax (mCons (mC (.int 0)) (mCons (mBin fSub (mPk 3) (mPk 2)) (mNil)))) (mBin fAdd (mBlt fMin (mCons (mPk 0) (mCons (mBin fAdd (mPk 3) (mPk 1)) (mNil)))) (mC (.int 1))))))
theorem ok_follows_in {P : Program} {w : World} {K : PySem.W.Frag} {mg : Str → Option Value} {base : Heap} {Tb : List (Addr × Str)} (T : Tx mg) (F : At K mg "follows_in" s_follows_in) : Cal P w base ⟨K, mg, Lt, Tb⟩ "follows_in" 1 ["top", "up", "down", "speed"] m_follows_in := by
  have b_list := T.b_list
  have b_range := T.b_range
  have b_max := T.b_max
  have b_min := T.b_min
  refine cal_of (k := 0) F sc_follows_in (fun _ _ _ _ _ _ us hl => match us, hl with | [_, _, _, _], _ => rfl) fun f cdv A outer s H E hr => ?_
  exact ss_one (ss_ret (se_listRg2 rfl rfl b_list rfl b_range (se_blt (call_maxA rfl) cs_max rfl b_max bb_max (pa_consP (sp_of (se_int)) (pa_consP (sp_of (se_bin op_sub os_sub (sp_var 3) (sp_var 2))) (pa_nilP)))) (se_bin op_addA os_add (sp_of (se_blt (call_minA rfl) cs_min rfl b_min bb_min (pa_consP (sp_var 0) (pa_consP (sp_of (se_bin op_addA os_add (sp_var 3) (sp_var 1))) (pa_nilP))))) (sp_of (se_int)))))
theorem sc_far_in : FnScope N_far_in ["book"] (defScope s_far_in) := ⟨rfl, rfl, rfl, by decide +kernel, rfl, by decide +kernel, by decide +kernel⟩
def m_far_in : List D → G → R D := mDef 1 (mRet (mBin fAdd (mBlt fLen (mCons (mBin fIx (mPk 0) (mC (.int 4))) (mNil))) (mBin fIx (mPk 0) (mC (.int 0)))))
theorem ok_far_in {P : Program} {w : World} {K : PySem.W.Frag} {mg : Str → Option Value} {base : Heap} {Tb : List (Addr × Str)} (T : Tx mg) (F : At K mg "far_in" s_far_in) : Cal P w base ⟨K, mg, Lt, Tb⟩ "far_in" 1 ["book"] m_far_in := by
  have b_len := T.b_len
  obtain ⟨t_LOOKS, c_LOOKS⟩ := T.c_LOOKS
  obtain ⟨t_TOP, c_TOP⟩ := T.c_TOP
  refine cal_of (k := 0) F sc_far_in (fun _ _ _ _ _ _ us hl => match us, hl with | [_], _ => rfl) fun f cdv A outer s H E hr => ?_
  exact ss_one (ss_ret (se_bin op_addA os_add (sp_of (se_blt call_lenA cs_len rfl b_len bb_len (pa_consP (sp_of (se_ix rfl (hu1 hr) (sp_var 0) (sp_of (se_gint rfl c_LOOKS)) (fun _ _ => rfl))) (pa_nilP)))) (sp_of (se_ix rfl (hu1 hr) (sp_var 0) (sp_of (se_gint rfl c_TOP)) (fun _ _ => rfl)))))
theorem sc_aspect_in : FnScope N_aspect_in ["book", "gap"] (defScope s_aspect_in) := ⟨rfl, rfl, rfl, by decide +kernel, rfl, by decide +kernel, by decide +kernel⟩
def m_aspect_in : List D → G → R D := mDef 2 (mRet (mBin fIx (mBin fIx (mPk 0) (mC (.int 4))) (mBlt fMin (mCons (mPk 1) (mCons (mBin fSub (mBlt fLen (mCons (mBin fIx (mPk 0) (mC (.int 4))) (mNil))) (mC (.int 1))) (mNil))))))
theorem ok_aspect_in {P : Program} {w : World} {K : PySem.W.Frag} {mg : Str → Option Value} {base : Heap} {Tb : List (Addr × Str)} (T : Tx mg) (F : At K mg "aspect_in" s_aspect_in) : Cal P w base ⟨K, mg, Lt, Tb⟩ "aspect_in" 1 ["book", "gap"] m_aspect_in := by
  have b_min := T.b_min
  have b_len := T.b_len
  obtain ⟨t_LOOKS, c_LOOKS⟩ := T.c_LOOKS
  refine cal_of (k := 0) F sc_aspect_in (fun _ _ _ _ _ _ us hl => match us, hl with | [_, _], _ => rfl) fun f cdv A outer s H E hr => ?_
  exact ss_one (ss_ret (se_ix rfl (hu1 hr) (sp_of (se_ix rfl (hu1 hr) (sp_var 0) (sp_of (se_gint rfl c_LOOKS)) (fun _ _ => rfl))) (sp_of (se_blt (call_minA rfl) cs_min rfl b_min bb_min (pa_consP (sp_var 1) (pa_consP (sp_of (se_bin op_sub os_sub (sp_of (se_blt call_lenA cs_len rfl b_len bb_len (pa_consP (sp_of (se_ix rfl (hu1 hr) (sp_var 0) (sp_of (se_gint rfl c_LOOKS)) (fun _ _ => rfl))) (pa_nilP)))) (sp_of (se_int)))) (pa_nilP))))) (fun _ _ => rfl)))
theorem sc_standings_to : FnScope N_standings_to ["book", "far"] (defScope s_standings_to) := ⟨rfl, rfl, rfl, by decide +kernel, rfl, by decide +kernel, by decide +kernel⟩
def m_standings_to : List D → G → R D := mDef 6 (mSeq (mSetO 2 (mItems (mNil))) (mSeq (mFor (mRg1 (mBin fAdd (mPk 1) (mC (.int 1)))) (bName 3) (mFor (mRg1 (mBin fAdd (mBin fIx (mPk 0) (mC (.int 0))) (mC (.int 1)))) (bName 4) (mExt 2 (mNew (mComp [5] (mRg1 (mBin fAdd (mBin fIx (mPk 0) (mC (.int 0))) (mC (.int 1)))) (bName 5) (mTst (mBin fGe (mBin fAdd (mBin fSub (mPk 3) (mPk 5)) (mPk 4)) (mC (.int 0)))) (mTup (mCons (mVar 3) (mCons (mVar 4) (mCons (mVar 5) (mNil)))))))))) (mFrz 2 (mRet (mVar 2)))))
theorem ok_standings_to {P : Program} {w : World} {K : PySem.W.Frag} {mg : Str → Option Value} {base : Heap} {Tb : List (Addr × Str)} (T : Tx mg) (F : At K mg "standings_to" s_standings_to) : Cal P w base ⟨K, mg, Lt, Tb⟩ "standings_to" 1 ["book", "far"] m_standings_to := by
  have b_range := T.b_range
  obtain ⟨t_TOP, c_TOP⟩ := T.c_TOP
  refine cal_of (k := 0) F sc_standings_to (fun _ _ _ _ _ _ us hl => match us, hl with | [_, _], _ => rfl) fun f cdv A outer s H E hr => ?_
  exact ss_cons (ss_own 2 (ps_set (i := 2) sc_standings_to.nd rfl (by first | exact Or.inl rfl | exact Or.inr rfl) (sn_lst (sa_nil)))) (ss_cons (ss_for (passes_of rfl) rfl (si_rg1 rfl b_range (se_bin op_addA os_add (sp_var 1) (sp_of (se_int)))) (pg_name (i := 3) sc_standings_to.nd rfl (by first | exact Or.inl rfl | exact Or.inr rfl)) (bs_name 3) (ss_one (ss_for (passes_of rfl) rfl (si_rg1 rfl b_range (se_bin op_addA os_add (sp_of (se_ix rfl (hu1 hr) (sp_var 0) (sp_of (se_gint rfl c_TOP)) (fun _ _ => rfl))) (sp_of (se_int)))) (pg_name (i := 4) sc_standings_to.nd rfl (by first | exact Or.inl rfl | exact Or.inr rfl)) (bs_name 4) (ss_one (ss_ext (ps_expr (pe_bm PySem.F.plainAttrs_list PySem.F.slot_list_extend PySem.F.type_list_extend mt_extend (pv 2) (pa_cons (se_new (sn_comp (own := [("ahead", 5)]) rfl sc_standings_to.nd (si_rg1 rfl b_range (se_bin op_addA os_add (sp_of (se_ix rfl (hu1 hr) (sp_var 0) (sp_of (se_gint rfl c_TOP)) (fun _ _ => rfl))) (sp_of (se_int)))) (blkOk_by (N := N_standings_to) (sc := defScope s_standings_to) (by decide +kernel)) (bs_name 5) (by decide) (fun _ _ _ _ _ => pg_name (i := 5) sc_standings_to.nd rfl (by first | exact Or.inl rfl | exact Or.inr rfl)) (fun _ _ _ _ _ => pts_oneS (st_cmp op_ge (os_cmpI _).s (sp_of (se_bin op_addA os_add (sp_of (se_bin op_sub os_sub (sp_var 3) (sp_var 5))) (sp_var 4))) (sp_of (se_int)))) (fun _ _ _ _ _ => se_tup (sa_cons (se_var 3) (sa_cons (se_var 4) (sa_cons (se_var 5) (sa_nil))))))) pa_nil)))))))) (ss_one (ss_frz 2 (ss_ret (se_var 2)))))
theorem sc_leads_by : FnScope N_leads_by ["standing", "step", "far"] (defScope s_leads_by) := ⟨rfl, rfl, rfl, by decide +kernel, rfl, by decide +kernel, by decide +kernel⟩
def m_leads_by : List D → G → R D := mDef 7 (mSeq (mAsg (mVar 1) (bTup [3, 4])) (mSeq (mAsg (mBin fSub (mBin fAdd (mBin fIx (mPk 0) (mC (.int 0))) (mPk 4)) (mPk 3)) (bName 5)) (mSeq (mIfS (mTst (mBin fLt (mPk 5) (mC (.int 0)))) (mRet (mNew (mItems (mNil)))) (mSkip)) (mSeq (mIfS (mTst (mBin fLt (mBin fIx (mPk 0) (mC (.int 0))) (mPk 2))) (mRet (mNew (mItems (mCons (mTup (mCons (mBlt fMin (mCons (mPk 5) (mCons (mPk 2) (mNil)))) (mCons (mVar 3) (mCons (mVar 4) (mNil))))) (mNil))))) (mSkip)) (mRet (mNew (mComp [6] (mRg2 (mBlt fMin (mCons (mPk 5) (mCons (mPk 2) (mNil)))) (mBin fAdd (mPk 2) (mC (.int 1)))) (bName 6) (mYes) (mTup (mCons (mVar 6) (mCons (mVar 3) (mCons (mVar 4) (mNil))))))))))))
theorem ok_leads_by {P : Program} {w : World} {K : PySem.W.Frag} {mg : Str → Option Value} {base : Heap} {Tb : List (Addr × Str)} (T : Tx mg) (F : At K mg "leads_by" s_leads_by) : Cal P w base ⟨K, mg, Lt, Tb⟩ "leads_by" 1 ["standing", "step", "far"] m_leads_by := by
  have b_min := T.b_min
  have b_range := T.b_range
  refine cal_of (k := 0) F sc_leads_by (fun _ _ _ _ _ _ us hl => match us, hl with | [_, _, _], _ => rfl) fun f cdv A outer s H E hr => ?_
  exact ss_cons (ss_setT [3, 4] rfl rfl (pgs_names_cons (i := 3) sc_leads_by.nd rfl (by first | exact Or.inl rfl | exact Or.inr rfl) (pgs_names_cons (i := 4) sc_leads_by.nd rfl (by first | exact Or.inl rfl | exact Or.inr rfl) (pgs_names_nil))) (se_var 1)) (ss_cons (ss_set 5 sc_leads_by.nd rfl (by first | exact Or.inl rfl | exact Or.inr rfl) (se_bin op_sub os_sub (sp_of (se_bin op_addA os_add (sp_of (se_ix rfl (hu1 hr) (sp_var 0) (sp_of (se_int)) (fun _ _ => rfl))) (sp_var 4))) (sp_var 3))) (ss_cons (ss_if (st_cmp (op_ltA (hu0 hr)) os_lt.s (sp_var 5) (sp_of (se_int))) (ss_one (ss_ret (se_new (sn_lst (sa_nil))))) (ss_nil)) (ss_cons (ss_if (st_cmp (op_ltA (hu0 hr)) os_lt.s (sp_of (se_ix rfl (hu1 hr) (sp_var 0) (sp_of (se_int)) (fun _ _ => rfl))) (sp_var 2)) (ss_one (ss_ret (se_new (sn_lst (sa_cons (se_tup (sa_cons (se_blt (call_minA rfl) cs_min rfl b_min bb_min (pa_consP (sp_var 5) (pa_consP (sp_var 2) (pa_nilP)))) (sa_cons (se_var 3) (sa_cons (se_var 4) (sa_nil))))) (sa_nil)))))) (ss_nil)) (ss_one (ss_ret (se_new (sn_comp (own := [("gap", 6)]) rfl sc_leads_by.nd (si_rg2 rfl b_range (se_blt (call_minA rfl) cs_min rfl b_min bb_min (pa_consP (sp_var 5) (pa_consP (sp_var 2) (pa_nilP)))) (se_bin op_addA os_add (sp_var 2) (sp_of (se_int)))) (blkOk_by (N := N_leads_by) (sc := defScope s_leads_by) (by decide +kernel)) (bs_name 6) (by decide) (fun _ _ _ _ _ => pg_name (i := 6) sc_leads_by.nd rfl (by first | exact Or.inl rfl | exact Or.inr rfl)) (fun _ _ _ _ _ => pts_nilS) (fun _ _ _ _ _ => se_tup (sa_cons (se_var 6) (sa_cons (se_var 3) (sa_cons (se_var 4) (sa_nil))))))))))))
theorem sc_is_start_by : FnScope N_is_start_by ["book", "standing", "far"] (defScope s_is_start_by) := ⟨rfl, rfl, rfl, by decide +kernel, rfl, by decide +kernel, by decide +kernel⟩
def m_is_start_by : List D → G → R D := mDef 6 (mSeq (mAsg (mVar 1) (bTup [3, 4, 5])) (mRet (mOrV (mBin fEq (mPk 3) (mPk 2)) (mAndV (mBin fEq (mPk 4) (mC (.int 0))) (mAndV (mBin fEq (mPk 5) (mC (.int 0))) (mBin fGe (mPk 3) (mBin fIx (mPk 0) (mC (.int 3)))))))))
theorem ok_is_start_by {P : Program} {w : World} {K : PySem.W.Frag} {mg : Str → Option Value} {base : Heap} {Tb : List (Addr × Str)} (T : Tx mg) (F : At K mg "is_start_by" s_is_start_by) : Cal P w base ⟨K, mg, Lt, Tb⟩ "is_start_by" 1 ["book", "standing", "far"] m_is_start_by := by
  obtain ⟨t_LEAST, c_LEAST⟩ := T.c_LEAST
  refine cal_of (k := 0) F sc_is_start_by (fun _ _ _ _ _ _ us hl => match us, hl with | [_, _, _], _ => rfl) fun f cdv A outer s H E hr => ?_
  exact ss_cons (ss_setT [3, 4, 5] rfl rfl (pgs_names_cons (i := 3) sc_is_start_by.nd rfl (by first | exact Or.inl rfl | exact Or.inr rfl) (pgs_names_cons (i := 4) sc_is_start_by.nd rfl (by first | exact Or.inl rfl | exact Or.inr rfl) (pgs_names_cons (i := 5) sc_is_start_by.nd rfl (by first | exact Or.inl rfl | exact Or.inr rfl) (pgs_names_nil)))) (se_var 1)) (ss_one (ss_ret (se_or (se_cmp (op_eqD (hu64 hr)) os_eq.s (sp_var 3) (sp_var 2)) (se_one (se_and (se_cmp (op_eqD (hu64 hr)) os_eq.s (sp_var 4) (sp_of (se_int))) (se_and (se_cmp (op_eqD (hu64 hr)) os_eq.s (sp_var 5) (sp_of (se_int))) (se_one (se_cmp op_ge (os_cmpI _).s (sp_var 3) (sp_of (se_ix rfl (hu1 hr) (sp_var 0) (sp_of (se_gint rfl c_LEAST)) (fun _ _ => rfl)))))))))))
theorem sc_moved : FnScope N_moved ["standing", "step"] (defScope s_moved) := ⟨rfl, rfl, rfl, by decide +kernel, rfl, by decide +kernel, by decide +kernel⟩
def m_moved : List D → G → R D := mDef 2 (mRet (mTup (mCons (mBin fSub (mBin fAdd (mBin fIx (mPk 0) (mC (.int 0))) (mBin fIx (mPk 1) (mC (.int 1)))) (mBin fIx (mPk 1) (mC (.int 0)))) (mCons (mBin fIx (mPk 1) (mC (.int 0))) (mCons (mBin fIx (mPk 1) (mC (.int 1))) (mNil))))))
theorem ok_moved {P : Program} {w : World} {K : PySem.W.Frag} {mg : Str → Option Value} {base : Heap} {Tb : List (Addr × Str)} (T : Tx mg) (F : At K mg "moved" s_moved) : Cal P w base ⟨K, mg, Lt, Tb⟩ "moved" 1 ["standing", "step"] m_moved := by
  refine cal_of (k := 0) F sc_moved (fun _ _ _ _ _ _ us hl => match us, hl with | [_, _], _ => rfl) fun f cdv A outer s H E hr => ?_
  exact ss_one (ss_ret (se_tup (sa_cons (se_bin op_sub os_sub (sp_of (se_bin op_addA os_add (sp_of (se_ix rfl (hu1 hr) (sp_var 0) (sp_of (se_int)) (fun _ _ => rfl))) (sp_of (se_ix rfl (hu1 hr) (sp_var 1) (sp_of (se_int)) (fun _ _ => rfl))))) (sp_of (se_ix rfl (hu1 hr) (sp_var 1) (sp_of (se_int)) (fun _ _ => rfl)))) (sa_cons (se_ix rfl (hu1 hr) (sp_var 1) (sp_of (se_int)) (fun _ _ => rfl)) (sa_cons (se_ix rfl (hu1 hr) (sp_var 1) (sp_of (se_int)) (fun _ _ => rfl)) (sa_nil))))))
theorem sc__law_begun : FnScope N__law_begun ["_law_script"] (defScope s__law_begun) := ⟨rfl, rfl, rfl, by decide +kernel, rfl, by decide +kernel, by decide +kernel⟩
def m__law_begun : List D → G → R D := mDef 3 (mSeq (mAsg (mC (.int 11)) (bName 1)) (mSeq (mFor (mItL (mVar 0)) (bName 2) (mAsg (mBin fMod (mBlt fInt1 (mCons (mBin fAdd (mBin fAdd (mBin fMul (mPk 1) (mC (.int 69621))) (mBin fMod (mBlt fInt1 (mCons (mPk 2) (mNil))) (mC (.int 2147483629)))) (mC (.int 7))) (mNil))) (mC (.int 2147483647))) (bName 1))) (mRet (mDisp [(.inr "great", mNew (mComp [2] (mItL (mVar 0)) (bName 2) (mTst (mBin fGe (mPk 2) (mBin fPow (mC (.int 10)) (mC (.int 18))))) (mVar 2))), (.inr "seed", mVar 1), (.inr "turns", mC (.int 0))]))))
theorem ok__law_begun {P : Program} {w : World} {K : PySem.W.Frag} {mg : Str → Option Value} {base : Heap} {Tb : List (Addr × Str)} (T : Tx mg) (F : At K mg "_law_begun" s__law_begun) : Cal P w base ⟨K, mg, Lt, Tb⟩ "_law_begun" 1 ["_law_script"] m__law_begun := by
  have b_int := T.b_int
  refine cal_of (k := 0) F sc__law_begun (fun _ _ _ _ _ _ us hl => match us, hl with | [_], _ => rfl) fun f cdv A outer s H E hr => ?_
  exact ss_cons (ss_set 1 sc__law_begun.nd rfl (by first | exact Or.inl rfl | exact Or.inr rfl) (se_int)) (ss_cons (ss_for (passes_of rfl) rfl (si_list rfl (se_var 0)) (pg_name (i := 2) sc__law_begun.nd rfl (by first | exact Or.inl rfl | exact Or.inr rfl)) (bs_name 2) (ss_one (ss_set 1 sc__law_begun.nd rfl (by first | exact Or.inl rfl | exact Or.inr rfl) (se_bin op_mod os_mod (sp_of (se_ty call_int1 cs_int1 rfl b_int bb_int (pa_consP (sp_of (se_bin op_addA os_add (sp_of (se_bin op_addA os_add (sp_of (se_bin op_mulA os_mul (sp_var 1) (sp_of (se_int)))) (sp_of (se_bin op_mod os_mod (sp_of (se_ty call_int1 cs_int1 rfl b_int bb_int (pa_consP (sp_var 2) (pa_nilP)))) (sp_of (se_int)))))) (sp_of (se_int)))) (pa_nilP)))) (sp_of (se_int)))))) (ss_one (ss_ret (se_disp [(.inr "great", mNew (mComp [2] (mItL (mVar 0)) (bName 2) (mTst (mBin fGe (mPk 2) (mBin fPow (mC (.int 10)) (mC (.int 18))))) (mVar 2))), (.inr "seed", mVar 1), (.inr "turns", mC (.int 0))] (pps_cons pe_str (se_new (sn_comp (own := [("_law_cell", 2)]) rfl sc__law_begun.nd (si_list rfl (se_var 0)) (blkOk_by (N := N__law_begun) (sc := defScope s__law_begun) (by decide +kernel)) (bs_name 2) (by decide) (fun _ _ _ _ _ => pg_name (i := 2) sc__law_begun.nd rfl (by first | exact Or.inl rfl | exact Or.inr rfl)) (fun _ _ _ _ _ => pts_oneS (st_cmp op_ge (os_cmpI _).s (sp_var 2) (sp_of (se_bin op_pow os_pow (sp_of (se_int)) (sp_of (se_int)))))) (fun _ _ _ _ _ => se_var 2))) (pps_cons pe_str (se_var 1) (pps_cons pe_str (se_int) (pps_nil)))) rfl rfl (fun h => nomatch h) (by decide)))))
theorem sc__law_draw : FnScope N__law_draw ["_law_m", "_law_limit"] (defScope s__law_draw) := ⟨rfl, rfl, rfl, by decide +kernel, rfl, by decide +kernel, by decide +kernel⟩
def m__law_draw : List D → G → R D := mDef 4 (mSeq (mWhile 70 (mAndT (mTst (mBin fNe (mGet (mVar 0) (.inr "great")) (mNew (mItems (mNil))))) (mTst (mBin fEq (mBin fIx (mGet (mVar 0) (.inr "great")) (mC (.int 0))) (mC (.int 0))))) (mGPut 0 (.inr "great") (mSl (mGet (mVar 0) (.inr "great")) (mPart (mC (.int 1))) (mNo)))) (mSeq (mIfS (mTst (mBin fNe (mGet (mVar 0) (.inr "great")) (mNew (mItems (mNil))))) (mSeq (mAsg (mBin fIx (mGet (mVar 0) (.inr "great")) (mC (.int 0))) (bName 3)) (mSeq (mGPut 0 (.inr "great") (mBin fAdd (mNew (mItems (mCons (mBin fDiv (mPk 3) (mPk 1)) (mNil)))) (mSl (mGet (mVar 0) (.inr "great")) (mPart (mC (.int 1))) (mNo)))) (mRet (mBin fMod (mBlt fInt1 (mCons (mPk 3) (mNil))) (mPk 1))))) (mSkip)) (mSeq (mGPut 0 (.inr "turns") (mBin fAdd (mGet (mVar 0) (.inr "turns")) (mC (.int 1)))) (mSeq (mAsg (mBin fMod (mBlt fInt1 (mCons (mBin fAdd (mBin fAdd (mBin fMul (mGet (mVar 0) (.inr "seed")) (mC (.int 48271))) (mBin fMul (mBin fMul (mGet (mVar 0) (.inr "turns")) (mGet (mVar 0) (.inr "turns"))) (mC (.int 16807)))) (mGet (mVar 0) (.inr "turns"))) (mNil))) (mC (.int 2147483647))) (bName 2)) (mSeq (mAsg (mBin fMod (mBlt fInt1 (mCons (mBin fAdd (mBin fMul (mPk 2) (mC (.int 69621))) (mC (.int 12345))) (mNil))) (mC (.int 2147483629))) (bName 2)) (mRet (mBin fMod (mBin fDiv (mBin fMod (mBlt fInt1 (mCons (mBin fAdd (mBin fMul (mPk 2) (mC (.int 40014))) (mGet (mVar 0) (.inr "turns"))) (mNil))) (mC (.int 2147483563))) (mC (.int 64))) (mPk 1))))))))
theorem ok__law_draw {P : Program} {w : World} {K : PySem.W.Frag} {mg : Str → Option Value} {base : Heap} {Tb : List (Addr × Str)} (T : Tx mg) (F : At K mg "_law_draw" s__law_draw) : Cal P w base ⟨K, mg, Lt, Tb⟩ "_law_draw" 1 ["_law_m", "_law_limit"] m__law_draw := by
  have b_int := T.b_int
  refine cal_of (k := 0) F sc__law_draw (fun _ _ _ _ _ _ us hl => match us, hl with | [_, _], _ => rfl) fun f cdv A outer s H E hr => ?_
  exact ss_cons (ss_while 70 (passes_of rfl) (PW.pt (st_and (st_cmp (op_neD (hu64 hr)) os_ne.s (sp_of (se_get (k := .inr "great") (hu1 hr) (se_var 0) pe_str (fun _ _ => rfl))) (sp_of (se_new (sn_lst (sa_nil))))) (st_and1 (st_cmp (op_eqD (hu64 hr)) os_eq.s (sp_of (se_ix rfl (hu1 hr) (sp_of (se_get (k := .inr "great") (hu1 hr) (se_var 0) pe_str (fun _ _ => rfl))) (sp_of (se_int)) (fun _ _ => rfl))) (sp_of (se_int)))))) (ss_one (ss_gput (k := .inr "great") 0 (hu1 hr) rfl (by first | exact Or.inl rfl | exact Or.inr (Or.inl rfl) | exact Or.inr (Or.inr rfl)) (by decide) (by decide) pe_str (se_slice rfl (sp_of (se_get (k := .inr "great") (hu1 hr) (se_var 0) pe_str (fun _ _ => rfl))) (so_some (se_int)) (so_none)) rfl))) (ss_cons (ss_if (st_cmp (op_neD (hu64 hr)) os_ne.s (sp_of (se_get (k := .inr "great") (hu1 hr) (se_var 0) pe_str (fun _ _ => rfl))) (sp_of (se_new (sn_lst (sa_nil))))) (ss_cons (ss_set 3 sc__law_draw.nd rfl (by first | exact Or.inl rfl | exact Or.inr rfl) (se_ix rfl (hu1 hr) (sp_of (se_get (k := .inr "great") (hu1 hr) (se_var 0) pe_str (fun _ _ => rfl))) (sp_of (se_int)) (fun _ _ => rfl))) (ss_cons (ss_gput (k := .inr "great") 0 (hu1 hr) rfl (by first | exact Or.inl rfl | exact Or.inr (Or.inl rfl) | exact Or.inr (Or.inr rfl)) (by decide) (by decide) pe_str (se_bin op_addA os_add (sp_of (se_new (sn_lst (sa_cons (se_bin op_fdiv os_div (sp_var 3) (sp_var 1)) (sa_nil))))) (sp_of (se_slice rfl (sp_of (se_get (k := .inr "great") (hu1 hr) (se_var 0) pe_str (fun _ _ => rfl))) (so_some (se_int)) (so_none)))) rfl) (ss_one (ss_ret (se_bin op_mod os_mod (sp_of (se_ty call_int1 cs_int1 rfl b_int bb_int (pa_consP (sp_var 3) (pa_nilP)))) (sp_var 1)))))) (ss_nil)) (ss_cons (ss_gput (k := .inr "turns") 0 (hu1 hr) rfl (by first | exact Or.inl rfl | exact Or.inr (Or.inl rfl) | exact Or.inr (Or.inr rfl)) (by decide) (by decide) pe_str (se_bin op_addA os_add (sp_of (se_get (k := .inr "turns") (hu1 hr) (se_var 0) pe_str (fun _ _ => rfl))) (sp_of (se_int))) rfl) (ss_cons (ss_set 2 sc__law_draw.nd rfl (by first | exact Or.inl rfl | exact Or.inr rfl) (se_bin op_mod os_mod (sp_of (se_ty call_int1 cs_int1 rfl b_int bb_int (pa_consP (sp_of (se_bin op_addA os_add (sp_of (se_bin op_addA os_add (sp_of (se_bin op_mulA os_mul (sp_of (se_get (k := .inr "seed") (hu1 hr) (se_var 0) pe_str (fun _ _ => rfl))) (sp_of (se_int)))) (sp_of (se_bin op_mulA os_mul (sp_of (se_bin op_mulA os_mul (sp_of (se_get (k := .inr "turns") (hu1 hr) (se_var 0) pe_str (fun _ _ => rfl))) (sp_of (se_get (k := .inr "turns") (hu1 hr) (se_var 0) pe_str (fun _ _ => rfl))))) (sp_of (se_int)))))) (sp_of (se_get (k := .inr "turns") (hu1 hr) (se_var 0) pe_str (fun _ _ => rfl))))) (pa_nilP)))) (sp_of (se_int)))) (ss_cons (ss_set 2 sc__law_draw.nd rfl (by first | exact Or.inl rfl | exact Or.inr rfl) (se_bin op_mod os_mod (sp_of (se_ty call_int1 cs_int1 rfl b_int bb_int (pa_consP (sp_of (se_bin op_addA os_add (sp_of (se_bin op_mulA os_mul (sp_var 2) (sp_of (se_int)))) (sp_of (se_int)))) (pa_nilP)))) (sp_of (se_int)))) (ss_one (ss_ret (se_bin op_mod os_mod (sp_of (se_bin op_fdiv os_div (sp_of (se_bin op_mod os_mod (sp_of (se_ty call_int1 cs_int1 rfl b_int bb_int (pa_consP (sp_of (se_bin op_addA os_add (sp_of (se_bin op_mulA os_mul (sp_var 2) (sp_of (se_int)))) (sp_of (se_get (k := .inr "turns") (hu1 hr) (se_var 0) pe_str (fun _ _ => rfl))))) (pa_nilP)))) (sp_of (se_int)))) (sp_of (se_int)))) (sp_var 1))))))))
theorem sc__law_books : FnScope N__law_books [] (defScope s__law_books) := ⟨rfl, rfl, rfl, by decide +kernel, rfl, by decide +kernel, by decide +kernel⟩
def m__law_books : List D → G → R D := mDef 6 (mSeq (mAsg (mTup (mCons (mTup (mCons (mTup (mCons (mC (.int 0)) (mCons (mC (.int 1)) (mNil)))) (mCons (mTup (mCons (mC (.int 0)) (mCons (mC (.int 1)) (mNil)))) (mNil)))) (mCons (mTup (mCons (mTup (mCons (mC (.int 0)) (mNil))) (mCons (mTup (mCons (mC (.int 0)) (mNil))) (mNil)))) (mNil)))) (bTup [0, 1])) (mSeq (mSetO 2 (mItems (mCons (mTup (mCons (mTup (mCons (mC (.int 1)) (mCons (mC (.int 1)) (mCons (mC (.int 1)) (mCons (mC (.int 0)) (mCons (mTup (mCons (mC (.int 0)) (mCons (mC (.int 1)) (mNil)))) (mCons (mTup (mCons (mVar 1) (mCons (mVar 0) (mNil)))) (mCons (mC (.bl false)) (mNil))))))))) (mCons (mC .non) (mNil)))) (mCons (mTup (mCons (mTup (mCons (mC (.int 1)) (mCons (mC (.int 1)) (mCons (mC (.int 1)) (mCons (mC (.int 0)) (mCons (mTup (mCons (mC (.int 0)) (mCons (mC (.int 1)) (mNil)))) (mCons (mTup (mCons (mVar 1) (mCons (mVar 0) (mNil)))) (mCons (mC (.bl true)) (mNil))))))))) (mCons (mC (.int 2)) (mNil)))) (mNil))))) (mSeq (mApp 2 (mTup (mCons (mTup (mCons (mC (.int 1)) (mCons (mC (.int 1)) (mCons (mC (.int 1)) (mCons (mC (.int 0)) (mCons (mTup (mCons (mC (.int 0)) (mCons (mC (.int 0)) (mCons (mC (.int 1)) (mNil))))) (mCons (mTup (mCons (mVar 1) (mCons (mVar 0) (mNil)))) (mCons (mC (.bl true)) (mNil))))))))) (mCons (mC .non) (mNil))))) (mSeq (mApp 2 (mTup (mCons (mTup (mCons (mC (.int 1)) (mCons (mC (.int 1)) (mCons (mC (.int 1)) (mCons (mC (.int 0)) (mCons (mTup (mCons (mC (.int 0)) (mNil))) (mCons (mTup (mCons (mVar 0) (mNil))) (mCons (mC (.bl false)) (mNil))))))))) (mCons (mC (.int 1)) (mNil))))) (mSeq (mApp 2 (mTup (mCons (mTup (mCons (mC (.int 1)) (mCons (mC (.int 1)) (mCons (mC (.int 1)) (mCons (mC (.int 3)) (mCons (mTup (mCons (mC (.int 0)) (mNil))) (mCons (mTup (mCons (mVar 0) (mNil))) (mCons (mC (.bl false)) (mNil))))))))) (mCons (mC (.int 3)) (mNil))))) (mSeq (mAsg (mTup (mCons (mTup (mCons (mTup (mCons (mC (.int 0)) (mCons (mC (.int 1)) (mNil)))) (mCons (mTup (mCons (mC (.int 0)) (mCons (mC (.int 1)) (mCons (mC (.int 2)) (mNil))))) (mCons (mTup (mCons (mC (.int 1)) (mCons (mC (.int 2)) (mNil)))) (mNil))))) (mCons (mTup (mCons (mTup (mCons (mC (.int 0)) (mNil))) (mCons (mTup (mCons (mC (.int 0)) (mNil))) (mCons (mTup (mCons (mC (.int 1)) (mNil))) (mNil))))) (mNil)))) (bTup [3, 4])) (mSeq (mApp 2 (mTup (mCons (mTup (mCons (mC (.int 2)) (mCons (mC (.int 1)) (mCons (mC (.int 1)) (mCons (mC (.int 0)) (mCons (mTup (mCons (mC (.int 0)) (mCons (mC (.int 1)) (mNil)))) (mCons (mTup (mCons (mVar 4) (mCons (mVar 3) (mNil)))) (mCons (mC (.bl false)) (mNil))))))))) (mCons (mC (.int 2)) (mNil))))) (mSeq (mApp 2 (mTup (mCons (mTup (mCons (mC (.int 2)) (mCons (mC (.int 1)) (mCons (mC (.int 1)) (mCons (mC (.int 0)) (mCons (mTup (mCons (mC (.int 0)) (mCons (mC (.int 0)) (mCons (mC (.int 1)) (mNil))))) (mCons (mTup (mCons (mVar 4) (mCons (mVar 3) (mNil)))) (mCons (mC (.bl false)) (mNil))))))))) (mCons (mC (.int 3)) (mNil))))) (mSeq (mApp 2 (mTup (mCons (mTup (mCons (mC (.int 2)) (mCons (mC (.int 1)) (mCons (mC (.int 1)) (mCons (mC (.int 0)) (mCons (mTup (mCons (mC (.int 0)) (mCons (mC (.int 0)) (mCons (mC (.int 0)) (mCons (mC (.int 1)) (mNil)))))) (mCons (mTup (mCons (mVar 4) (mCons (mVar 3) (mNil)))) (mCons (mC (.bl false)) (mNil))))))))) (mCons (mC .non) (mNil))))) (mSeq (mAsg (mBin fMul (mTup (mCons (mTup (mCons (mC (.int 0)) (mCons (mC (.int 1)) (mCons (mC (.int 2)) (mNil))))) (mNil))) (mC (.int 3))) (bName 5)) (mSeq (mApp 2 (mTup (mCons (mTup (mCons (mC (.int 2)) (mCons (mC (.int 2)) (mCons (mC (.int 2)) (mCons (mC (.int 0)) (mCons (mTup (mCons (mC (.int 0)) (mCons (mC (.int 1)) (mCons (mC (.int 2)) (mNil))))) (mCons (mTup (mCons (mBin fMul (mTup (mCons (mTup (mCons (mC (.int 0)) (mNil))) (mNil))) (mC (.int 3))) (mCons (mBin fMul (mTup (mCons (mTup (mCons (mC (.int 0)) (mCons (mC (.int 1)) (mNil)))) (mNil))) (mC (.int 3))) (mCons (mVar 5) (mNil))))) (mCons (mC (.bl false)) (mNil))))))))) (mCons (mC .non) (mNil))))) (mRet (mBin fAdd (mPk 2) (mNew (mItems (mCons (mTup (mCons (mTup (mCons (mC (.int 3)) (mCons (mC (.int 3)) (mCons (mC (.int 3)) (mCons (mC (.int 9)) (mCons (mTup (mCons (mC (.int 0)) (mNil))) (mCons (mTup (mCons (mBin fMul (mTup (mCons (mTup (mCons (mC (.int 0)) (mCons (mC (.int 1)) (mCons (mC (.int 2)) (mCons (mC (.int 3)) (mNil)))))) (mNil))) (mC (.int 4))) (mNil))) (mCons (mC (.bl true)) (mNil))))))))) (mCons (mC (.int 2)) (mNil)))) (mNil)))))))))))))))))
theorem ok__law_books {P : Program} {w : World} {K : PySem.W.Frag} {mg : Str → Option Value} {base : Heap} {Tb : List (Addr × Str)} (T : Tx mg) (F : At K mg "_law_books" s__law_books) : Cal P w base ⟨K, mg, Lt, Tb⟩ "_law_books" 1 [] m__law_books := by
  refine cal_of (k := 0) F sc__law_books (fun _ _ _ _ _ _ us hl => match us, hl with | [], _ => rfl) fun f cdv A outer s H E hr => ?_
  exact ss_cons (ss_setT [0, 1] rfl rfl (pgs_names_cons (i := 0) sc__law_books.nd rfl (by first | exact Or.inl rfl | exact Or.inr rfl) (pgs_names_cons (i := 1) sc__law_books.nd rfl (by first | exact Or.inl rfl | exact Or.inr rfl) (pgs_names_nil))) (se_tup (sa_cons (se_tup (sa_cons (se_tup (sa_cons (se_int) (sa_cons (se_int) (sa_nil)))) (sa_cons (se_tup (sa_cons (se_int) (sa_cons (se_int) (sa_nil)))) (sa_nil)))) (sa_cons (se_tup (sa_cons (se_tup (sa_cons (se_int) (sa_nil))) (sa_cons (se_tup (sa_cons (se_int) (sa_nil))) (sa_nil)))) (sa_nil))))) (ss_cons (ss_own 2 (ps_set (i := 2) sc__law_books.nd rfl (by first | exact Or.inl rfl | exact Or.inr rfl) (sn_lst (sa_cons (se_tup (sa_cons (se_tup (sa_cons (se_int) (sa_cons (se_int) (sa_cons (se_int) (sa_cons (se_int) (sa_cons (se_tup (sa_cons (se_int) (sa_cons (se_int) (sa_nil)))) (sa_cons (se_tup (sa_cons (se_var 1) (sa_cons (se_var 0) (sa_nil)))) (sa_cons (se_bl) (sa_nil))))))))) (sa_cons (se_non) (sa_nil)))) (sa_cons (se_tup (sa_cons (se_tup (sa_cons (se_int) (sa_cons (se_int) (sa_cons (se_int) (sa_cons (se_int) (sa_cons (se_tup (sa_cons (se_int) (sa_cons (se_int) (sa_nil)))) (sa_cons (se_tup (sa_cons (se_var 1) (sa_cons (se_var 0) (sa_nil)))) (sa_cons (se_bl) (sa_nil))))))))) (sa_cons (se_int) (sa_nil)))) (sa_nil)))))) (ss_cons (ss_app (ps_expr (pe_bm PySem.F.plainAttrs_list PySem.F.slot_list_append PySem.F.type_list_append mt_append (pv 2) (pa_cons (se_tup (sa_cons (se_tup (sa_cons (se_int) (sa_cons (se_int) (sa_cons (se_int) (sa_cons (se_int) (sa_cons (se_tup (sa_cons (se_int) (sa_cons (se_int) (sa_cons (se_int) (sa_nil))))) (sa_cons (se_tup (sa_cons (se_var 1) (sa_cons (se_var 0) (sa_nil)))) (sa_cons (se_bl) (sa_nil))))))))) (sa_cons (se_non) (sa_nil)))) pa_nil)))) (ss_cons (ss_app (ps_expr (pe_bm PySem.F.plainAttrs_list PySem.F.slot_list_append PySem.F.type_list_append mt_append (pv 2) (pa_cons (se_tup (sa_cons (se_tup (sa_cons (se_int) (sa_cons (se_int) (sa_cons (se_int) (sa_cons (se_int) (sa_cons (se_tup (sa_cons (se_int) (sa_nil))) (sa_cons (se_tup (sa_cons (se_var 0) (sa_nil))) (sa_cons (se_bl) (sa_nil))))))))) (sa_cons (se_int) (sa_nil)))) pa_nil)))) (ss_cons (ss_app (ps_expr (pe_bm PySem.F.plainAttrs_list PySem.F.slot_list_append PySem.F.type_list_append mt_append (pv 2) (pa_cons (se_tup (sa_cons (se_tup (sa_cons (se_int) (sa_cons (se_int) (sa_cons (se_int) (sa_cons (se_int) (sa_cons (se_tup (sa_cons (se_int) (sa_nil))) (sa_cons (se_tup (sa_cons (se_var 0) (sa_nil))) (sa_cons (se_bl) (sa_nil))))))))) (sa_cons (se_int) (sa_nil)))) pa_nil)))) (ss_cons (ss_setT [3, 4] rfl rfl (pgs_names_cons (i := 3) sc__law_books.nd rfl (by first | exact Or.inl rfl | exact Or.inr rfl) (pgs_names_cons (i := 4) sc__law_books.nd rfl (by first | exact Or.inl rfl | exact Or.inr rfl) (pgs_names_nil))) (se_tup (sa_cons (se_tup (sa_cons (se_tup (sa_cons (se_int) (sa_cons (se_int) (sa_nil)))) (sa_cons (se_tup (sa_cons (se_int) (sa_cons (se_int) (sa_cons (se_int) (sa_nil))))) (sa_cons (se_tup (sa_cons (se_int) (sa_cons (se_int) (sa_nil)))) (sa_nil))))) (sa_cons (se_tup (sa_cons (se_tup (sa_cons (se_int) (sa_nil))) (sa_cons (se_tup (sa_cons (se_int) (sa_nil))) (sa_cons (se_tup (sa_cons (se_int) (sa_nil))) (sa_nil))))) (sa_nil))))) (ss_cons (ss_app (ps_expr (pe_bm PySem.F.plainAttrs_list PySem.F.slot_list_append PySem.F.type_list_append mt_append (pv 2) (pa_cons (se_tup (sa_cons (se_tup (sa_cons (se_int) (sa_cons (se_int) (sa_cons (se_int) (sa_cons (se_int) (sa_cons (se_tup (sa_cons (se_int) (sa_cons (se_int) (sa_nil)))) (sa_cons (se_tup (sa_cons (se_var 4) (sa_cons (se_var 3) (sa_nil)))) (sa_cons (se_bl) (sa_nil))))))))) (sa_cons (se_int) (sa_nil)))) pa_nil)))) (ss_cons (ss_app (ps_expr (pe_bm PySem.F.plainAttrs_list PySem.F.slot_list_append PySem.F.type_list_append mt_append (pv 2) (pa_cons (se_tup (sa_cons (se_tup (sa_cons (se_int) (sa_cons (se_int) (sa_cons (se_int) (sa_cons (se_int) (sa_cons (se_tup (sa_cons (se_int) (sa_cons (se_int) (sa_cons (se_int) (sa_nil))))) (sa_cons (se_tup (sa_cons (se_var 4) (sa_cons (se_var 3) (sa_nil)))) (sa_cons (se_bl) (sa_nil))))))))) (sa_cons (se_int) (sa_nil)))) pa_nil)))) (ss_cons (ss_app (ps_expr (pe_bm PySem.F.plainAttrs_list PySem.F.slot_list_append PySem.F.type_list_append mt_append (pv 2) (pa_cons (se_tup (sa_cons (se_tup (sa_cons (se_int) (sa_cons (se_int) (sa_cons (se_int) (sa_cons (se_int) (sa_cons (se_tup (sa_cons (se_int) (sa_cons (se_int) (sa_cons (se_int) (sa_cons (se_int) (sa_nil)))))) (sa_cons (se_tup (sa_cons (se_var 4) (sa_cons (se_var 3) (sa_nil)))) (sa_cons (se_bl) (sa_nil))))))))) (sa_cons (se_non) (sa_nil)))) pa_nil)))) (ss_cons (ss_set 5 sc__law_books.nd rfl (by first | exact Or.inl rfl | exact Or.inr rfl) (se_bin op_mulA os_mul (sp_of (se_tup (sa_cons (se_tup (sa_cons (se_int) (sa_cons (se_int) (sa_cons (se_int) (sa_nil))))) (sa_nil)))) (sp_of (se_int)))) (ss_cons (ss_app (ps_expr (pe_bm PySem.F.plainAttrs_list PySem.F.slot_list_append PySem.F.type_list_append mt_append (pv 2) (pa_cons (se_tup (sa_cons (se_tup (sa_cons (se_int) (sa_cons (se_int) (sa_cons (se_int) (sa_cons (se_int) (sa_cons (se_tup (sa_cons (se_int) (sa_cons (se_int) (sa_cons (se_int) (sa_nil))))) (sa_cons (se_tup (sa_cons (se_bin op_mulA os_mul (sp_of (se_tup (sa_cons (se_tup (sa_cons (se_int) (sa_nil))) (sa_nil)))) (sp_of (se_int))) (sa_cons (se_bin op_mulA os_mul (sp_of (se_tup (sa_cons (se_tup (sa_cons (se_int) (sa_cons (se_int) (sa_nil)))) (sa_nil)))) (sp_of (se_int))) (sa_cons (se_var 5) (sa_nil))))) (sa_cons (se_bl) (sa_nil))))))))) (sa_cons (se_non) (sa_nil)))) pa_nil)))) (ss_one (ss_ret (se_bin op_addA os_add (sp_var 2) (sp_of (se_new (sn_lst (sa_cons (se_tup (sa_cons (se_tup (sa_cons (se_int) (sa_cons (se_int) (sa_cons (se_int) (sa_cons (se_int) (sa_cons (se_tup (sa_cons (se_int) (sa_nil))) (sa_cons (se_tup (sa_cons (se_bin op_mulA os_mul (sp_of (se_tup (sa_cons (se_tup (sa_cons (se_int) (sa_cons (se_int) (sa_cons (se_int) (sa_cons (se_int) (sa_nil)))))) (sa_nil)))) (sp_of (se_int))) (sa_nil))) (sa_cons (se_bl) (sa_nil))))))))) (sa_cons (se_int) (sa_nil)))) (sa_nil))))))))))))))))))
theorem sc_is_choice : FnScope N_is_choice ["some", "thing"] (defScope s_is_choice) := ⟨rfl, rfl, rfl, by decide +kernel, rfl, by decide +kernel, by decide +kernel⟩
def m_is_choice : List D → G → R D := mDef 4 (mSeq (mIfS (mOrT (mNotT (mTst (mFn 3 m_is_tuple_of (mCons (mVar 1) (mCons (mC (.int 1)) (mCons (mBlt fLen (mCons (mPk 0) (mNil))) (mNil))))))) (mNotT (mTst (mBlt fAll (mCons (mNew (mComp [2] (mItT (mVar 1)) (bName 2) (mYes) (mFn 3 m_is_whole (mCons (mVar 2) (mCons (mC (.int 0)) (mCons (mC .non) (mNil))))))) (mNil)))))) (mRet (mC (.bl false))) (mSkip)) (mRet (mAndV (mBlt fAll (mCons (mNew (mComp [2] (mItT (mVar 1)) (bName 2) (mYes) (mBin fIn (mPk 2) (mPk 0)))) (mNil))) (mBlt fAll (mCons (mNew (mComp [2, 3] (mZip (mVar 1) (mSl (mPk 1) (mPart (mC (.int 1))) (mNo))) (bTup [2, 3]) (mYes) (mBin fLt (mPk 2) (mPk 3)))) (mNil))))))
theorem ok_is_choice {P : Program} {w : World} {K : PySem.W.Frag} {mg : Str → Option Value} {base : Heap} {Tb : List (Addr × Str)} (T : Tx mg) (F : At K mg "is_choice" s_is_choice) (C_is_tuple_of : Cal P w base ⟨K, mg, Lt, Tb⟩ "is_tuple_of" 1 ["thing", "least", "most"] m_is_tuple_of) (C_is_whole : Cal P w base ⟨K, mg, Lt, Tb⟩ "is_whole" 1 ["thing", "least", "most"] m_is_whole) : Cal P w base ⟨K, mg, Lt, Tb⟩ "is_choice" 2 ["some", "thing"] m_is_choice := by
  have b_len := T.b_len
  have b_all := T.b_all
  have b_zip := T.b_zip
  obtain ⟨f_is_tuple_of, fd_is_tuple_of, G_is_tuple_of, g_is_tuple_of, k_is_tuple_of, B_is_tuple_of⟩ := C_is_tuple_of
  obtain ⟨f_is_whole, fd_is_whole, G_is_whole, g_is_whole, k_is_whole, B_is_whole⟩ := C_is_whole
  refine cal_of (k := 1) F sc_is_choice (fun _ _ _ _ _ _ us hl => match us, hl with | [_, _], _ => rfl) fun f cdv A outer s H E hr => ?_
  exact ss_cons (ss_if (PW.pt (st_or (st_not (st_val (se_call G_is_tuple_of (hr.mono (by decide)) g_is_tuple_of k_is_tuple_of B_is_tuple_of (takes_of rfl rfl rfl rfl) rfl (sa_cons (se_var 1) (sa_cons (se_int) (sa_cons (se_blt call_lenA cs_len rfl b_len bb_len (pa_consP (sp_var 0) (pa_nilP))) (sa_nil))))))) (st_or1 (st_not (st_val (se_blt (cr_all rfl) cs_all rfl b_all bb_all (pa_consP (sp_of (se_new (sn_comp (own := [("one", 2)]) rfl sc_is_choice.nd (si_tup rfl (se_var 1)) (blkOk_by (N := N_is_choice) (sc := defScope s_is_choice) (by decide +kernel)) (bs_name 2) (by decide) (fun _ _ _ _ _ => pg_name (i := 2) sc_is_choice.nd rfl (by first | exact Or.inl rfl | exact Or.inr rfl)) (fun _ _ _ _ _ => pts_nilS) (fun _ _ _ _ _ => se_call G_is_whole (hr.mono (by decide)) g_is_whole k_is_whole B_is_whole takes0 rfl (sa_cons (se_var 2) (sa_cons (se_int) (sa_cons (se_non) (sa_nil)))))))) (pa_nilP)))))))) (ss_one (ss_ret (se_bl))) (ss_nil)) (ss_one (ss_ret (se_and (se_blt (cr_all rfl) cs_all rfl b_all bb_all (pa_consP (sp_of (se_new (sn_comp (own := [("one", 2)]) rfl sc_is_choice.nd (si_tup rfl (se_var 1)) (blkOk_by (N := N_is_choice) (sc := defScope s_is_choice) (by decide +kernel)) (bs_name 2) (by decide) (fun _ _ _ _ _ => pg_name (i := 2) sc_is_choice.nd rfl (by first | exact Or.inl rfl | exact Or.inr rfl)) (fun _ _ _ _ _ => pts_nilS) (fun _ _ _ _ _ => se_cmp (op_inA (hu65 hr)) os_in.s (sp_var 2) (sp_var 0))))) (pa_nilP))) (se_one (se_blt (cr_all rfl) cs_all rfl b_all bb_all (pa_consP (sp_of (se_new (sn_comp (own := [("one", 2), ("other", 3)]) rfl sc_is_choice.nd (si_zip rfl rfl b_zip (se_var 1) (se_slice rfl (sp_var 1) (so_some (se_int)) (so_none))) (blkOk_by (N := N_is_choice) (sc := defScope s_is_choice) (by decide +kernel)) (bs_tup [2, 3]) (by decide) (fun _ _ _ _ _ => pg_tup rfl (pgs_names_cons (i := 2) sc_is_choice.nd rfl (by first | exact Or.inl rfl | exact Or.inr rfl) (pgs_names_cons (i := 3) sc_is_choice.nd rfl (by first | exact Or.inl rfl | exact Or.inr rfl) (pgs_names_nil)))) (fun _ _ _ _ _ => pts_nilS) (fun _ _ _ _ _ => se_cmp (op_ltA (hu0 hr)) os_lt.s (sp_var 2) (sp_var 3))))) (pa_nilP)))))))
theorem sc_numbers_fault : FnScope N_numbers_fault ["thing"] (defScope s_numbers_fault) := ⟨rfl, rfl, rfl, by decide +kernel, rfl, by decide +kernel, by decide +kernel⟩
def m_numbers_fault : List D → G → R D := mDef 5 (mSeq (mAsg (mSl (mPk 0) (mNo) (mPart (mC (.int 4)))) (bTup [1, 2, 3, 4])) (mSeq (mIfS (mNotT (mTst (mFn 3 m_is_whole (mCons (mVar 1) (mCons (mC (.int 1)) (mCons (mC (.int 3)) (mNil))))))) (mRet (mTup (mCons (mC (.str "top")) (mCons (mC .non) (mNil))))) (mSkip)) (mSeq (mIfS (mNotT (mTst (mFn 3 m_is_whole (mCons (mVar 2) (mCons (mC (.int 1)) (mCons (mVar 1) (mNil))))))) (mRet (mTup (mCons (mC (.str "up")) (mCons (mC .non) (mNil))))) (mSkip)) (mSeq (mIfS (mNotT (mTst (mFn 3 m_is_whole (mCons (mVar 3) (mCons (mC (.int 1)) (mCons (mVar 1) (mNil))))))) (mRet (mTup (mCons (mC (.str "down")) (mCons (mC .non) (mNil))))) (mSkip)) (mRet (mIf (mTst (mFn 3 m_is_whole (mCons (mVar 4) (mCons (mC (.int 0)) (mCons (mC (.int 9)) (mNil)))))) (mC .non) (mTup (mCons (mC (.str "least")) (mCons (mC .non) (mNil))))))))))
theorem ok_numbers_fault {P : Program} {w : World} {K : PySem.W.Frag} {mg : Str → Option Value} {base : Heap} {Tb : List (Addr × Str)} (T : Tx mg) (F : At K mg "numbers_fault" s_numbers_fault) (C_is_whole : Cal P w base ⟨K, mg, Lt, Tb⟩ "is_whole" 1 ["thing", "least", "most"] m_is_whole) : Cal P w base ⟨K, mg, Lt, Tb⟩ "numbers_fault" 2 ["thing"] m_numbers_fault := by
  obtain ⟨t_MOST_TOP, c_MOST_TOP⟩ := T.c_MOST_TOP
  obtain ⟨t_MOST_LEAST, c_MOST_LEAST⟩ := T.c_MOST_LEAST
  obtain ⟨f_is_whole, fd_is_whole, G_is_whole, g_is_whole, k_is_whole, B_is_whole⟩ := C_is_whole
  refine cal_of (k := 1) F sc_numbers_fault (fun _ _ _ _ _ _ us hl => match us, hl with | [_], _ => rfl) fun f cdv A outer s H E hr => ?_
  exact ss_cons (ss_setT [1, 2, 3, 4] rfl rfl (pgs_names_cons (i := 1) sc_numbers_fault.nd rfl (by first | exact Or.inl rfl | exact Or.inr rfl) (pgs_names_cons (i := 2) sc_numbers_fault.nd rfl (by first | exact Or.inl rfl | exact Or.inr rfl) (pgs_names_cons (i := 3) sc_numbers_fault.nd rfl (by first | exact Or.inl rfl | exact Or.inr rfl) (pgs_names_cons (i := 4) sc_numbers_fault.nd rfl (by first | exact Or.inl rfl | exact Or.inr rfl) (pgs_names_nil))))) (se_slice rfl (sp_var 0) (so_none) (so_some (se_int)))) (ss_cons (ss_if (st_not (st_val (se_call G_is_whole (hr.mono (by decide)) g_is_whole k_is_whole B_is_whole (takes_of rfl rfl rfl rfl) rfl (sa_cons (se_var 1) (sa_cons (se_int) (sa_cons (se_gint rfl c_MOST_TOP) (sa_nil))))))) (ss_one (ss_ret (se_tup (sa_cons (se_str) (sa_cons (se_non) (sa_nil)))))) (ss_nil)) (ss_cons (ss_if (st_not (st_val (se_call G_is_whole (hr.mono (by decide)) g_is_whole k_is_whole B_is_whole (takes_of rfl rfl rfl rfl) rfl (sa_cons (se_var 2) (sa_cons (se_int) (sa_cons (se_var 1) (sa_nil))))))) (ss_one (ss_ret (se_tup (sa_cons (se_str) (sa_cons (se_non) (sa_nil)))))) (ss_nil)) (ss_cons (ss_if (st_not (st_val (se_call G_is_whole (hr.mono (by decide)) g_is_whole k_is_whole B_is_whole (takes_of rfl rfl rfl rfl) rfl (sa_cons (se_var 3) (sa_cons (se_int) (sa_cons (se_var 1) (sa_nil))))))) (ss_one (ss_ret (se_tup (sa_cons (se_str) (sa_cons (se_non) (sa_nil)))))) (ss_nil)) (ss_one (ss_ret (se_if (st_val (se_call G_is_whole (hr.mono (by decide)) g_is_whole k_is_whole B_is_whole (takes_of rfl rfl rfl rfl) rfl (sa_cons (se_var 4) (sa_cons (se_int) (sa_cons (se_gint rfl c_MOST_LEAST) (sa_nil)))))) (se_non) (se_tup (sa_cons (se_str) (sa_cons (se_non) (sa_nil))))))))))
theorem sc_followers : FnScope N_followers ["book", "speed"] (defScope s_followers) := ⟨rfl, rfl, rfl, by decide +kernel, rfl, by decide +kernel, by decide +kernel⟩
def m_followers : List D → G → R D := mDef 2 (mRet (mFn 4 m_follows_in (mCons (mBin fIx (mPk 0) (mC (.int 0))) (mCons (mBin fIx (mPk 0) (mC (.int 1))) (mCons (mBin fIx (mPk 0) (mC (.int 2))) (mCons (mVar 1) (mNil)))))))
theorem ok_followers {P : Program} {w : World} {K : PySem.W.Frag} {mg : Str → Option Value} {base : Heap} {Tb : List (Addr × Str)} (T : Tx mg) (F : At K mg "followers" s_followers) (C_follows_in : Cal P w base ⟨K, mg, Lt, Tb⟩ "follows_in" 1 ["top", "up", "down", "speed"] m_follows_in) : Cal P w base ⟨K, mg, Lt, Tb⟩ "followers" 2 ["book", "speed"] m_followers := by
  obtain ⟨t_DOWN, c_DOWN⟩ := T.c_DOWN
  obtain ⟨t_UP, c_UP⟩ := T.c_UP
  obtain ⟨t_TOP, c_TOP⟩ := T.c_TOP
  obtain ⟨f_follows_in, fd_follows_in, G_follows_in, g_follows_in, k_follows_in, B_follows_in⟩ := C_follows_in
  refine cal_of (k := 1) F sc_followers (fun _ _ _ _ _ _ us hl => match us, hl with | [_, _], _ => rfl) fun f cdv A outer s H E hr => ?_
  exact ss_one (ss_ret (se_call G_follows_in (hr.mono (by decide)) g_follows_in k_follows_in B_follows_in (takes_of rfl rfl rfl rfl) rfl (sa_cons (se_ix rfl (hu1 hr) (sp_var 0) (sp_of (se_gint rfl c_TOP)) (fun _ _ => rfl)) (sa_cons (se_ix rfl (hu1 hr) (sp_var 0) (sp_of (se_gint rfl c_UP)) (fun _ _ => rfl)) (sa_cons (se_ix rfl (hu1 hr) (sp_var 0) (sp_of (se_gint rfl c_DOWN)) (fun _ _ => rfl)) (sa_cons (se_var 1) (sa_nil)))))))
theorem sc_is_standing_in : FnScope N_is_standing_in ["book", "thing"] (defScope s_is_standing_in) := ⟨rfl, rfl, rfl, by decide +kernel, rfl, by decide +kernel, by decide +kernel⟩
def m_is_standing_in : List D → G → R D := mDef 3 (mSeq (mIfS (mOrT (mNotT (mTst (mFn 3 m_is_tuple_of (mCons (mVar 1) (mCons (mC (.int 3)) (mCons (mC (.int 3)) (mNil))))))) (mNotT (mTst (mFn 3 m_is_whole (mCons (mBin fIx (mPk 1) (mC (.int 0))) (mCons (mC (.int 0)) (mCons (mFn 1 m_far_in (mCons (mVar 0) (mNil))) (mNil)))))))) (mRet (mC (.bl false))) (mSkip)) (mSeq (mIfS (mNotT (mTst (mBlt fAll (mCons (mNew (mComp [2] (mItT (mSl (mPk 1) (mPart (mC (.int 1))) (mNo))) (bName 2) (mYes) (mFn 3 m_is_whole (mCons (mVar 2) (mCons (mC (.int 0)) (mCons (mBin fIx (mPk 0) (mC (.int 0))) (mNil))))))) (mNil))))) (mRet (mC (.bl false))) (mSkip)) (mRet (mBin fGe (mBin fAdd (mBin fSub (mBin fIx (mPk 1) (mC (.int 0))) (mBin fIx (mPk 1) (mC (.int 2)))) (mBin fIx (mPk 1) (mC (.int 1)))) (mC (.int 0))))))
theorem ok_is_standing_in {P : Program} {w : World} {K : PySem.W.Frag} {mg : Str → Option Value} {base : Heap} {Tb : List (Addr × Str)} (T : Tx mg) (F : At K mg "is_standing_in" s_is_standing_in) (C_is_tuple_of : Cal P w base ⟨K, mg, Lt, Tb⟩ "is_tuple_of" 1 ["thing", "least", "most"] m_is_tuple_of) (C_is_whole : Cal P w base ⟨K, mg, Lt, Tb⟩ "is_whole" 1 ["thing", "least", "most"] m_is_whole) (C_far_in : Cal P w base ⟨K, mg, Lt, Tb⟩ "far_in" 1 ["book"] m_far_in) : Cal P w base ⟨K, mg, Lt, Tb⟩ "is_standing_in" 2 ["book", "thing"] m_is_standing_in := by
  have b_all := T.b_all
  obtain ⟨t_TOP, c_TOP⟩ := T.c_TOP
  obtain ⟨f_is_tuple_of, fd_is_tuple_of, G_is_tuple_of, g_is_tuple_of, k_is_tuple_of, B_is_tuple_of⟩ := C_is_tuple_of
  obtain ⟨f_is_whole, fd_is_whole, G_is_whole, g_is_whole, k_is_whole, B_is_whole⟩ := C_is_whole
  obtain ⟨f_far_in, fd_far_in, G_far_in, g_far_in, k_far_in, B_far_in⟩ := C_far_in
  refine cal_of (k := 1) F sc_is_standing_in (fun _ _ _ _ _ _ us hl => match us, hl with | [_, _], _ => rfl) fun f cdv A outer s H E hr => ?_
  exact ss_cons (ss_if (PW.pt (st_or (st_not (st_val (se_call G_is_tuple_of (hr.mono (by decide)) g_is_tuple_of k_is_tuple_of B_is_tuple_of (takes_of rfl rfl rfl rfl) rfl (sa_cons (se_var 1) (sa_cons (se_int) (sa_cons (se_int) (sa_nil))))))) (st_or1 (st_not (st_val (se_call G_is_whole (hr.mono (by decide)) g_is_whole k_is_whole B_is_whole (takes_of rfl rfl rfl rfl) rfl (sa_cons (se_ix rfl (hu1 hr) (sp_var 1) (sp_of (se_int)) (fun _ _ => rfl)) (sa_cons (se_int) (sa_cons (se_call G_far_in (hr.mono (by decide)) g_far_in k_far_in B_far_in (takes_of rfl rfl rfl rfl) rfl (sa_cons (se_var 0) (sa_nil))) (sa_nil)))))))))) (ss_one (ss_ret (se_bl))) (ss_nil)) (ss_cons (ss_if (st_not (st_val (se_blt (cr_all rfl) cs_all rfl b_all bb_all (pa_consP (sp_of (se_new (sn_comp (own := [("speed", 2)]) rfl sc_is_standing_in.nd (si_tup rfl (se_slice rfl (sp_var 1) (so_some (se_int)) (so_none))) (blkOk_by (N := N_is_standing_in) (sc := defScope s_is_standing_in) (by decide +kernel)) (bs_name 2) (by decide) (fun _ _ _ _ _ => pg_name (i := 2) sc_is_standing_in.nd rfl (by first | exact Or.inl rfl | exact Or.inr rfl)) (fun _ _ _ _ _ => pts_nilS) (fun _ _ _ _ _ => se_call G_is_whole (hr.mono (by decide)) g_is_whole k_is_whole B_is_whole takes0 rfl (sa_cons (se_var 2) (sa_cons (se_int) (sa_cons (se_ix rfl (hu1 hr) (sp_var 0) (sp_of (se_gint rfl c_TOP)) (fun _ _ => rfl)) (sa_nil)))))))) (pa_nilP))))) (ss_one (ss_ret (se_bl))) (ss_nil)) (ss_one (ss_ret (se_cmp op_ge (os_cmpI _).s (sp_of (se_bin op_addA os_add (sp_of (se_bin op_sub os_sub (sp_of (se_ix rfl (hu1 hr) (sp_var 1) (sp_of (se_int)) (fun _ _ => rfl))) (sp_of (se_ix rfl (hu1 hr) (sp_var 1) (sp_of (se_int)) (fun _ _ => rfl))))) (sp_of (se_ix rfl (hu1 hr) (sp_var 1) (sp_of (se_int)) (fun _ _ => rfl))))) (sp_of (se_int))))))
theorem sc_aspect_seen : FnScope N_aspect_seen ["book", "standing"] (defScope s_aspect_seen) := ⟨rfl, rfl, rfl, by decide +kernel, rfl, by decide +kernel, by decide +kernel⟩
def m_aspect_seen : List D → G → R D := mDef 5 (mSeq (mAsg (mVar 1) (bTup [2, 3, 4])) (mRet (mFn 2 m_aspect_in (mCons (mVar 0) (mCons (mIf (mTst (mBin fIx (mPk 0) (mC (.int 6)))) (mBin fAdd (mBin fSub (mPk 2) (mPk 4)) (mPk 3)) (mVar 2)) (mNil))))))
theorem ok_aspect_seen {P : Program} {w : World} {K : PySem.W.Frag} {mg : Str → Option Value} {base : Heap} {Tb : List (Addr × Str)} (T : Tx mg) (F : At K mg "aspect_seen" s_aspect_seen) (C_aspect_in : Cal P w base ⟨K, mg, Lt, Tb⟩ "aspect_in" 1 ["book", "gap"] m_aspect_in) : Cal P w base ⟨K, mg, Lt, Tb⟩ "aspect_seen" 2 ["book", "standing"] m_aspect_seen := by
  obtain ⟨t_LATE, c_LATE⟩ := T.c_LATE
  obtain ⟨f_aspect_in, fd_aspect_in, G_aspect_in, g_aspect_in, k_aspect_in, B_aspect_in⟩ := C_aspect_in
  refine cal_of (k := 1) F sc_aspect_seen (fun _ _ _ _ _ _ us hl => match us, hl with | [_, _], _ => rfl) fun f cdv A outer s H E hr => ?_
  exact ss_cons (ss_setT [2, 3, 4] rfl rfl (pgs_names_cons (i := 2) sc_aspect_seen.nd rfl (by first | exact Or.inl rfl | exact Or.inr rfl) (pgs_names_cons (i := 3) sc_aspect_seen.nd rfl (by first | exact Or.inl rfl | exact Or.inr rfl) (pgs_names_cons (i := 4) sc_aspect_seen.nd rfl (by first | exact Or.inl rfl | exact Or.inr rfl) (pgs_names_nil)))) (se_var 1)) (ss_one (ss_ret (se_call G_aspect_in (hr.mono (by decide)) g_aspect_in k_aspect_in B_aspect_in (takes_of rfl rfl rfl rfl) rfl (sa_cons (se_var 0) (sa_cons (se_if (st_val (se_ix rfl (hu1 hr) (sp_var 0) (sp_of (se_gint rfl c_LATE)) (fun _ _ => rfl))) (se_bin op_addA os_add (sp_of (se_bin op_sub os_sub (sp_var 2) (sp_var 4))) (sp_var 3)) (se_var 2)) (sa_nil))))))
theorem sc_leads_in : FnScope N_leads_in ["book", "standing", "step"] (defScope s_leads_in) := ⟨rfl, rfl, rfl, by decide +kernel, rfl, by decide +kernel, by decide +kernel⟩
def m_leads_in : List D → G → R D := mDef 3 (mRet (mFn 3 m_leads_by (mCons (mVar 1) (mCons (mVar 2) (mCons (mFn 1 m_far_in (mCons (mVar 0) (mNil))) (mNil))))))
theorem ok_leads_in {P : Program} {w : World} {K : PySem.W.Frag} {mg : Str → Option Value} {base : Heap} {Tb : List (Addr × Str)} (T : Tx mg) (F : At K mg "leads_in" s_leads_in) (C_leads_by : Cal P w base ⟨K, mg, Lt, Tb⟩ "leads_by" 1 ["standing", "step", "far"] m_leads_by) (C_far_in : Cal P w base ⟨K, mg, Lt, Tb⟩ "far_in" 1 ["book"] m_far_in) : Cal P w base ⟨K, mg, Lt, Tb⟩ "leads_in" 2 ["book", "standing", "step"] m_leads_in := by
  obtain ⟨f_leads_by, fd_leads_by, G_leads_by, g_leads_by, k_leads_by, B_leads_by⟩ := C_leads_by
  obtain ⟨f_far_in, fd_far_in, G_far_in, g_far_in, k_far_in, B_far_in⟩ := C_far_in
  refine cal_of (k := 1) F sc_leads_in (fun _ _ _ _ _ _ us hl => match us, hl with | [_, _, _], _ => rfl) fun f cdv A outer s H E hr => ?_
  exact ss_one (ss_ret (se_call G_leads_by (hr.mono (by decide)) g_leads_by k_leads_by B_leads_by (takes_of rfl rfl rfl rfl) rfl (sa_cons (se_var 1) (sa_cons (se_var 2) (sa_cons (se_call G_far_in (hr.mono (by decide)) g_far_in k_far_in B_far_in (takes_of rfl rfl rfl rfl) rfl (sa_cons (se_var 0) (sa_nil))) (sa_nil))))))
theorem sc_is_start : FnScope N_is_start ["book", "standing"] (defScope s_is_start) := ⟨rfl, rfl, rfl, by decide +kernel, rfl, by decide +kernel, by decide +kernel⟩
def m_is_start : List D → G → R D := mDef 2 (mRet (mFn 3 m_is_start_by (mCons (mVar 0) (mCons (mVar 1) (mCons (mFn 1 m_far_in (mCons (mVar 0) (mNil))) (mNil))))))
theorem ok_is_start {P : Program} {w : World} {K : PySem.W.Frag} {mg : Str → Option Value} {base : Heap} {Tb : List (Addr × Str)} (T : Tx mg) (F : At K mg "is_start" s_is_start) (C_is_start_by : Cal P w base ⟨K, mg, Lt, Tb⟩ "is_start_by" 1 ["book", "standing", "far"] m_is_start_by) (C_far_in : Cal P w base ⟨K, mg, Lt, Tb⟩ "far_in" 1 ["book"] m_far_in) : Cal P w base ⟨K, mg, Lt, Tb⟩ "is_start" 2 ["book", "standing"] m_is_start := by
  obtain ⟨f_is_start_by, fd_is_start_by, G_is_start_by, g_is_start_by, k_is_start_by, B_is_start_by⟩ := C_is_start_by
  obtain ⟨f_far_in, fd_far_in, G_far_in, g_far_in, k_far_in, B_far_in⟩ := C_far_in
  refine cal_of (k := 1) F sc_is_start (fun _ _ _ _ _ _ us hl => match us, hl with | [_, _], _ => rfl) fun f cdv A outer s H E hr => ?_
  exact ss_one (ss_ret (se_call G_is_start_by (hr.mono (by decide)) g_is_start_by k_is_start_by B_is_start_by (takes_of rfl rfl rfl rfl) rfl (sa_cons (se_var 0) (sa_cons (se_var 1) (sa_cons (se_call G_far_in (hr.mono (by decide)) g_far_in k_far_in B_far_in (takes_of rfl rfl rfl rfl) rfl (sa_cons (se_var 0) (sa_nil))) (sa_nil))))))
theorem sc_starts_by : FnScope N_starts_by ["book", "far"] (defScope s_starts_by) := ⟨rfl, rfl, rfl, by decide +kernel, rfl, by decide +kernel, by decide +kernel⟩
def m_starts_by : List D → G → R D := mDef 3 (mRet (mNew (mComp [2] (mItL (mFn 2 m_standings_to (mCons (mVar 0) (mCons (mVar 1) (mNil))))) (bName 2) (mTst (mFn 3 m_is_start_by (mCons (mVar 0) (mCons (mVar 2) (mCons (mVar 1) (mNil)))))) (mVar 2))))
theorem ok_starts_by {P : Program} {w : World} {K : PySem.W.Frag} {mg : Str → Option Value} {base : Heap} {Tb : List (Addr × Str)} (T : Tx mg) (F : At K mg "starts_by" s_starts_by) (C_standings_to : Cal P w base ⟨K, mg, Lt, Tb⟩ "standings_to" 1 ["book", "far"] m_standings_to) (C_is_start_by : Cal P w base ⟨K, mg, Lt, Tb⟩ "is_start_by" 1 ["book", "standing", "far"] m_is_start_by) : Cal P w base ⟨K, mg, Lt, Tb⟩ "starts_by" 2 ["book", "far"] m_starts_by := by
  obtain ⟨f_standings_to, fd_standings_to, G_standings_to, g_standings_to, k_standings_to, B_standings_to⟩ := C_standings_to
  obtain ⟨f_is_start_by, fd_is_start_by, G_is_start_by, g_is_start_by, k_is_start_by, B_is_start_by⟩ := C_is_start_by
  refine cal_of (k := 1) F sc_starts_by (fun _ _ _ _ _ _ us hl => match us, hl with | [_, _], _ => rfl) fun f cdv A outer s H E hr => ?_
  exact ss_one (ss_ret (se_new (sn_comp (own := [("standing", 2)]) rfl sc_starts_by.nd (si_list rfl (se_call G_standings_to (hr.mono (by decide)) g_standings_to k_standings_to B_standings_to (takes_of rfl rfl rfl rfl) rfl (sa_cons (se_var 0) (sa_cons (se_var 1) (sa_nil))))) (blkOk_by (N := N_starts_by) (sc := defScope s_starts_by) (by decide +kernel)) (bs_name 2) (by decide) (fun _ _ _ _ _ => pg_name (i := 2) sc_starts_by.nd rfl (by first | exact Or.inl rfl | exact Or.inr rfl)) (fun _ _ _ _ _ => pts_oneS (st_val (se_call G_is_start_by (hr.mono (by decide)) g_is_start_by k_is_start_by B_is_start_by takes0 rfl (sa_cons (se_var 0) (sa_cons (se_var 2) (sa_cons (se_var 1) (sa_nil))))))) (fun _ _ _ _ _ => se_var 2))))
theorem sc_capped : FnScope N_capped ["book", "standing"] (defScope s_capped) := ⟨rfl, rfl, rfl, by decide +kernel, rfl, by decide +kernel, by decide +kernel⟩
def m_capped : List D → G → R D := mDef 2 (mRet (mTup (mCons (mBlt fMin (mCons (mBin fIx (mPk 1) (mC (.int 0))) (mCons (mFn 1 m_far_in (mCons (mVar 0) (mNil))) (mNil)))) (mCons (mBin fIx (mPk 1) (mC (.int 1))) (mCons (mBin fIx (mPk 1) (mC (.int 2))) (mNil))))))
theorem ok_capped {P : Program} {w : World} {K : PySem.W.Frag} {mg : Str → Option Value} {base : Heap} {Tb : List (Addr × Str)} (T : Tx mg) (F : At K mg "capped" s_capped) (C_far_in : Cal P w base ⟨K, mg, Lt, Tb⟩ "far_in" 1 ["book"] m_far_in) : Cal P w base ⟨K, mg, Lt, Tb⟩ "capped" 2 ["book", "standing"] m_capped := by
  have b_min := T.b_min
  obtain ⟨f_far_in, fd_far_in, G_far_in, g_far_in, k_far_in, B_far_in⟩ := C_far_in
  refine cal_of (k := 1) F sc_capped (fun _ _ _ _ _ _ us hl => match us, hl with | [_, _], _ => rfl) fun f cdv A outer s H E hr => ?_
  exact ss_one (ss_ret (se_tup (sa_cons (se_blt (call_minA rfl) cs_min rfl b_min bb_min (pa_consP (sp_of (se_ix rfl (hu1 hr) (sp_var 1) (sp_of (se_int)) (fun _ _ => rfl))) (pa_consP (sp_of (se_call G_far_in (hr.mono (by decide)) g_far_in k_far_in B_far_in (takes_of rfl rfl rfl rfl) rfl (sa_cons (se_var 0) (sa_nil)))) (pa_nilP)))) (sa_cons (se_ix rfl (hu1 hr) (sp_var 1) (sp_of (se_int)) (fun _ _ => rfl)) (sa_cons (se_ix rfl (hu1 hr) (sp_var 1) (sp_of (se_int)) (fun _ _ => rfl)) (sa_nil))))))
theorem sc_exact_start : FnScope N_exact_start ["book", "first", "pairs"] (defScope s_exact_start) := ⟨rfl, rfl, rfl, by decide +kernel, rfl, by decide +kernel, by decide +kernel⟩
def m_exact_start : List D → G → R D := mDef 5 (mSeq (mIfS (mTst (mBin fLt (mBin fIx (mPk 1) (mC (.int 0))) (mFn 1 m_far_in (mCons (mVar 0) (mNil))))) (mRet (mBin fIx (mPk 1) (mC (.int 0)))) (mSkip)) (mSeq (mAsg (mBin fIx (mPk 2) (mC (.int 0))) (bTup [3, 4])) (mRet (mBin fAdd (mBin fSub (mBin fIx (mPk 4) (mC (.int 0))) (mBin fIx (mPk 3) (mC (.int 1)))) (mBin fIx (mPk 3) (mC (.int 0)))))))
theorem ok_exact_start {P : Program} {w : World} {K : PySem.W.Frag} {mg : Str → Option Value} {base : Heap} {Tb : List (Addr × Str)} (T : Tx mg) (F : At K mg "exact_start" s_exact_start) (C_far_in : Cal P w base ⟨K, mg, Lt, Tb⟩ "far_in" 1 ["book"] m_far_in) : Cal P w base ⟨K, mg, Lt, Tb⟩ "exact_start" 2 ["book", "first", "pairs"] m_exact_start := by
  obtain ⟨f_far_in, fd_far_in, G_far_in, g_far_in, k_far_in, B_far_in⟩ := C_far_in
  refine cal_of (k := 1) F sc_exact_start (fun _ _ _ _ _ _ us hl => match us, hl with | [_, _, _], _ => rfl) fun f cdv A outer s H E hr => ?_
  exact ss_cons (ss_if (st_cmp (op_ltA (hu0 hr)) os_lt.s (sp_of (se_ix rfl (hu1 hr) (sp_var 1) (sp_of (se_int)) (fun _ _ => rfl))) (sp_of (se_call G_far_in (hr.mono (by decide)) g_far_in k_far_in B_far_in (takes_of rfl rfl rfl rfl) rfl (sa_cons (se_var 0) (sa_nil))))) (ss_one (ss_ret (se_ix rfl (hu1 hr) (sp_var 1) (sp_of (se_int)) (fun _ _ => rfl)))) (ss_nil)) (ss_cons (ss_setT [3, 4] rfl rfl (pgs_names_cons (i := 3) sc_exact_start.nd rfl (by first | exact Or.inl rfl | exact Or.inr rfl) (pgs_names_cons (i := 4) sc_exact_start.nd rfl (by first | exact Or.inl rfl | exact Or.inr rfl) (pgs_names_nil))) (se_ix rfl (hu1 hr) (sp_var 2) (sp_of (se_int)) (fun _ _ => rfl))) (ss_one (ss_ret (se_bin op_addA os_add (sp_of (se_bin op_sub os_sub (sp_of (se_ix rfl (hu1 hr) (sp_var 4) (sp_of (se_int)) (fun _ _ => rfl))) (sp_of (se_ix rfl (hu1 hr) (sp_var 3) (sp_of (se_int)) (fun _ _ => rfl))))) (sp_of (se_ix rfl (hu1 hr) (sp_var 3) (sp_of (se_int)) (fun _ _ => rfl)))))))
theorem sc_need_form : FnScope N_need_form ["paper"] (defScope s_need_form) := ⟨rfl, rfl, rfl, by decide +kernel, rfl, by decide +kernel, by decide +kernel⟩
def m_need_form : List D → G → R D := mDef 2 (mSeq (mIfS (mOrT (mNotT (mTst (mFn 3 m_is_tuple_of (mCons (mVar 0) (mCons (mC (.int 2)) (mCons (mC (.int 5)) (mNil))))))) (mNotT (mTst (mIsi tabStr (mBin fIx (mPk 0) (mC (.int 0))))))) (mStop) (mSkip)) (mSeq (mIfS (mOrT (mTst (mBin fNotIn (mTup (mCons (mBin fIx (mPk 0) (mC (.int 0))) (mCons (mBlt fLen (mCons (mPk 0) (mNil))) (mNil)))) (mTup (mCons (mTup (mCons (mC (.str "crash")) (mCons (mC (.int 5)) (mNil)))) (mCons (mTup (mCons (mC (.str "clear")) (mCons (mC (.int 2)) (mNil)))) (mNil)))))) (mNotT (mTst (mIsi tabTuple (mBin fIx (mPk 0) (mNeg (mC (.int 1)))))))) (mStop) (mSkip)) (mIfS (mNotT (mTst (mBlt fAll (mCons (mNew (mComp [1] (mItA (mSl (mPk 0) (mPart (mC (.int 1))) (mPart (mNeg (mC (.int 1)))))) (bName 1) (mYes) (mFn 3 m_is_whole (mCons (mVar 1) (mCons (mC (.int 0)) (mCons (mC .non) (mNil))))))) (mNil))))) (mStop) (mSkip))))
theorem ok_need_form {P : Program} {w : World} {K : PySem.W.Frag} {mg : Str → Option Value} {base : Heap} {Tb : List (Addr × Str)} (T : Tx mg) (F : At K mg "need_form" s_need_form) (C_is_tuple_of : Cal P w base ⟨K, mg, Lt, Tb⟩ "is_tuple_of" 1 ["thing", "least", "most"] m_is_tuple_of) (C_is_whole : Cal P w base ⟨K, mg, Lt, Tb⟩ "is_whole" 1 ["thing", "least", "most"] m_is_whole) : Cal P w base ⟨K, mg, Lt, Tb⟩ "need_form" 2 ["paper"] m_need_form := by
  have b_isinstance := T.b_isinstance
  have b_str := T.b_str
  have b_len := T.b_len
  have b_tuple := T.b_tuple
  have b_all := T.b_all
  obtain ⟨t_CLEAR, c_CLEAR⟩ := T.c_CLEAR
  obtain ⟨t_CRASH, c_CRASH⟩ := T.c_CRASH
  obtain ⟨f_is_tuple_of, fd_is_tuple_of, G_is_tuple_of, g_is_tuple_of, k_is_tuple_of, B_is_tuple_of⟩ := C_is_tuple_of
  obtain ⟨f_is_whole, fd_is_whole, G_is_whole, g_is_whole, k_is_whole, B_is_whole⟩ := C_is_whole
  refine cal_of (k := 1) F sc_need_form (fun _ _ _ _ _ _ us hl => match us, hl with | [_], _ => rfl) fun f cdv A outer s H E hr => ?_
  exact ss_cons (ss_if (PW.pt (st_or (st_not (st_val (se_call G_is_tuple_of (hr.mono (by decide)) g_is_tuple_of k_is_tuple_of B_is_tuple_of (takes_of rfl rfl rfl rfl) rfl (sa_cons (se_var 0) (sa_cons (se_int) (sa_cons (se_int) (sa_nil))))))) (st_or1 (st_not (st_val (se_isi rfl tabStr_ok (sp_of (se_ix rfl (hu1 hr) (sp_var 0) (sp_of (se_int)) (fun _ _ => rfl))) rfl b_isinstance rfl b_str bb_str)))))) (ss_one (ss_never)) (ss_nil)) (ss_cons (ss_if (PW.pt (st_or (st_cmp (op_notInA (hu65 hr)) os_notIn.s (sp_of (se_tup (sa_cons (se_ix rfl (hu1 hr) (sp_var 0) (sp_of (se_int)) (fun _ _ => rfl)) (sa_cons (se_blt call_lenA cs_len rfl b_len bb_len (pa_consP (sp_var 0) (pa_nilP))) (sa_nil))))) (sp_of (se_tup (sa_cons (se_tup (sa_cons (se_gstr rfl c_CRASH) (sa_cons (se_int) (sa_nil)))) (sa_cons (se_tup (sa_cons (se_gstr rfl c_CLEAR) (sa_cons (se_int) (sa_nil)))) (sa_nil)))))) (st_or1 (st_not (st_val (se_isi rfl tabTuple_ok (sp_of (se_ix rfl (hu1 hr) (sp_var 0) (sp_of (se_neg se_int)) (fun _ _ => rfl))) rfl b_isinstance rfl b_tuple bb_tuple)))))) (ss_one (ss_never)) (ss_nil)) (ss_one (ss_if (st_not (st_val (se_blt (cr_all rfl) cs_all rfl b_all bb_all (pa_consP (sp_of (se_new (sn_comp (own := [("one", 1)]) rfl sc_need_form.nd (si_any rfl (se_slice rfl (sp_var 0) (so_some (se_int)) (so_some (se_neg se_int)))) (blkOk_by (N := N_need_form) (sc := defScope s_need_form) (by decide +kernel)) (bs_name 1) (by decide) (fun _ _ _ _ _ => pg_name (i := 1) sc_need_form.nd rfl (by first | exact Or.inl rfl | exact Or.inr rfl)) (fun _ _ _ _ _ => pts_nilS) (fun _ _ _ _ _ => se_call G_is_whole (hr.mono (by decide)) g_is_whole k_is_whole B_is_whole takes0 rfl (sa_cons (se_var 1) (sa_cons (se_int) (sa_cons (se_non) (sa_nil)))))))) (pa_nilP))))) (ss_one (ss_never)) (ss_nil))))
theorem sc_is_row : FnScope N_is_row ["top", "up", "down", "thing"] (defScope s_is_row) := ⟨rfl, rfl, rfl, by decide +kernel, rfl, by decide +kernel, by decide +kernel⟩
def m_is_row : List D → G → R D := mDef 6 (mSeq (mIfS (mNotT (mTst (mFn 3 m_is_tuple_of (mCons (mVar 3) (mCons (mBin fAdd (mPk 0) (mC (.int 1))) (mCons (mBin fAdd (mPk 0) (mC (.int 1))) (mNil))))))) (mRet (mC (.bl false))) (mSkip)) (mRet (mBlt fAll (mCons (mNew (mComp [4, 5] (mEnT (mVar 3)) (bTup [4, 5]) (mYes) (mFn 2 m_is_choice (mCons (mFn 4 m_follows_in (mCons (mVar 0) (mCons (mVar 1) (mCons (mVar 2) (mCons (mVar 4) (mNil)))))) (mCons (mVar 5) (mNil)))))) (mNil)))))
theorem ok_is_row {P : Program} {w : World} {K : PySem.W.Frag} {mg : Str → Option Value} {base : Heap} {Tb : List (Addr × Str)} (T : Tx mg) (F : At K mg "is_row" s_is_row) (C_is_tuple_of : Cal P w base ⟨K, mg, Lt, Tb⟩ "is_tuple_of" 1 ["thing", "least", "most"] m_is_tuple_of) (C_is_choice : Cal P w base ⟨K, mg, Lt, Tb⟩ "is_choice" 2 ["some", "thing"] m_is_choice) (C_follows_in : Cal P w base ⟨K, mg, Lt, Tb⟩ "follows_in" 1 ["top", "up", "down", "speed"] m_follows_in) : Cal P w base ⟨K, mg, Lt, Tb⟩ "is_row" 3 ["top", "up", "down", "thing"] m_is_row := by
  have b_all := T.b_all
  have b_enumerate := T.b_enumerate
  obtain ⟨f_is_tuple_of, fd_is_tuple_of, G_is_tuple_of, g_is_tuple_of, k_is_tuple_of, B_is_tuple_of⟩ := C_is_tuple_of
  obtain ⟨f_is_choice, fd_is_choice, G_is_choice, g_is_choice, k_is_choice, B_is_choice⟩ := C_is_choice
  obtain ⟨f_follows_in, fd_follows_in, G_follows_in, g_follows_in, k_follows_in, B_follows_in⟩ := C_follows_in
  refine cal_of (k := 2) F sc_is_row (fun _ _ _ _ _ _ us hl => match us, hl with | [_, _, _, _], _ => rfl) fun f cdv A outer s H E hr => ?_
  exact ss_cons (ss_if (st_not (st_val (se_call G_is_tuple_of (hr.mono (by decide)) g_is_tuple_of k_is_tuple_of B_is_tuple_of (takes_of rfl rfl rfl rfl) rfl (sa_cons (se_var 3) (sa_cons (se_bin op_addA os_add (sp_var 0) (sp_of (se_int))) (sa_cons (se_bin op_addA os_add (sp_var 0) (sp_of (se_int))) (sa_nil))))))) (ss_one (ss_ret (se_bl))) (ss_nil)) (ss_one (ss_ret (se_blt (cr_all rfl) cs_all rfl b_all bb_all (pa_consP (sp_of (se_new (sn_comp (own := [("speed", 4), ("some", 5)]) rfl sc_is_row.nd (si_enT rfl b_enumerate (se_var 3)) (blkOk_by (N := N_is_row) (sc := defScope s_is_row) (by decide +kernel)) (bs_tup [4, 5]) (by decide) (fun _ _ _ _ _ => pg_tup rfl (pgs_names_cons (i := 4) sc_is_row.nd rfl (by first | exact Or.inl rfl | exact Or.inr rfl) (pgs_names_cons (i := 5) sc_is_row.nd rfl (by first | exact Or.inl rfl | exact Or.inr rfl) (pgs_names_nil)))) (fun _ _ _ _ _ => pts_nilS) (fun _ _ _ _ _ => se_call G_is_choice (hr.mono (by decide)) g_is_choice k_is_choice B_is_choice takes0 rfl (sa_cons (se_call G_follows_in (hr.mono (by decide)) g_follows_in k_follows_in B_follows_in takes0 rfl (sa_cons (se_var 0) (sa_cons (se_var 1) (sa_cons (se_var 2) (sa_cons (se_var 4) (sa_nil)))))) (sa_cons (se_var 5) (sa_nil))))))) (pa_nilP)))))
theorem sc_choices_in : FnScope N_choices_in ["book", "standing"] (defScope s_choices_in) := ⟨rfl, rfl, rfl, by decide +kernel, rfl, by decide +kernel, by decide +kernel⟩
def m_choices_in : List D → G → R D := mDef 2 (mRet (mBin fIx (mBin fIx (mBin fIx (mPk 0) (mC (.int 5))) (mFn 2 m_aspect_seen (mCons (mVar 0) (mCons (mVar 1) (mNil))))) (mBin fIx (mPk 1) (mC (.int 1)))))
theorem ok_choices_in {P : Program} {w : World} {K : PySem.W.Frag} {mg : Str → Option Value} {base : Heap} {Tb : List (Addr × Str)} (T : Tx mg) (F : At K mg "choices_in" s_choices_in) (C_aspect_seen : Cal P w base ⟨K, mg, Lt, Tb⟩ "aspect_seen" 2 ["book", "standing"] m_aspect_seen) : Cal P w base ⟨K, mg, Lt, Tb⟩ "choices_in" 3 ["book", "standing"] m_choices_in := by
  obtain ⟨t_RULES, c_RULES⟩ := T.c_RULES
  obtain ⟨f_aspect_seen, fd_aspect_seen, G_aspect_seen, g_aspect_seen, k_aspect_seen, B_aspect_seen⟩ := C_aspect_seen
  refine cal_of (k := 2) F sc_choices_in (fun _ _ _ _ _ _ us hl => match us, hl with | [_, _], _ => rfl) fun f cdv A outer s H E hr => ?_
  exact ss_one (ss_ret (se_ix rfl (hu1 hr) (sp_of (se_ix rfl (hu1 hr) (sp_of (se_ix rfl (hu1 hr) (sp_var 0) (sp_of (se_gint rfl c_RULES)) (fun _ _ => rfl))) (sp_of (se_call G_aspect_seen (hr.mono (by decide)) g_aspect_seen k_aspect_seen B_aspect_seen (takes_of rfl rfl rfl rfl) rfl (sa_cons (se_var 0) (sa_cons (se_var 1) (sa_nil))))) (fun _ _ => rfl))) (sp_of (se_ix rfl (hu1 hr) (sp_var 1) (sp_of (se_int)) (fun _ _ => rfl))) (fun _ _ => rfl)))
theorem sc_starts_in : FnScope N_starts_in ["book"] (defScope s_starts_in) := ⟨rfl, rfl, rfl, by decide +kernel, rfl, by decide +kernel, by decide +kernel⟩
def m_starts_in : List D → G → R D := mDef 1 (mRet (mFn 2 m_starts_by (mCons (mVar 0) (mCons (mFn 1 m_far_in (mCons (mVar 0) (mNil))) (mNil)))))
theorem ok_starts_in {P : Program} {w : World} {K : PySem.W.Frag} {mg : Str → Option Value} {base : Heap} {Tb : List (Addr × Str)} (T : Tx mg) (F : At K mg "starts_in" s_starts_in) (C_starts_by : Cal P w base ⟨K, mg, Lt, Tb⟩ "starts_by" 2 ["book", "far"] m_starts_by) (C_far_in : Cal P w base ⟨K, mg, Lt, Tb⟩ "far_in" 1 ["book"] m_far_in) : Cal P w base ⟨K, mg, Lt, Tb⟩ "starts_in" 3 ["book"] m_starts_in := by
  obtain ⟨f_starts_by, fd_starts_by, G_starts_by, g_starts_by, k_starts_by, B_starts_by⟩ := C_starts_by
  obtain ⟨f_far_in, fd_far_in, G_far_in, g_far_in, k_far_in, B_far_in⟩ := C_far_in
  refine cal_of (k := 2) F sc_starts_in (fun _ _ _ _ _ _ us hl => match us, hl with | [_], _ => rfl) fun f cdv A outer s H E hr => ?_
  exact ss_one (ss_ret (se_call G_starts_by (hr.mono (by decide)) g_starts_by k_starts_by B_starts_by (takes_of rfl rfl rfl rfl) rfl (sa_cons (se_var 0) (sa_cons (se_call G_far_in (hr.mono (by decide)) g_far_in k_far_in B_far_in (takes_of rfl rfl rfl rfl) rfl (sa_cons (se_var 0) (sa_nil))) (sa_nil)))))
theorem sc_steps_in : FnScope N_steps_in ["book", "standing"] (defScope s_steps_in) := ⟨rfl, rfl, rfl, by decide +kernel, rfl, by decide +kernel, by decide +kernel⟩
def m_steps_in : List D → G → R D := mDef 5 (mSeq (mAsg (mFn 2 m_followers (mCons (mVar 0) (mCons (mBin fIx (mPk 1) (mC (.int 2))) (mNil)))) (bName 2)) (mRet (mNew (mComp2 [3, 4] [4] (mItT (mFn 2 m_choices_in (mCons (mVar 0) (mCons (mVar 1) (mNil))))) (bName 3) (mYes) (mItL (mVar 2)) (bName 4) (mYes) (mTup (mCons (mVar 3) (mCons (mVar 4) (mNil))))))))
theorem ok_steps_in {P : Program} {w : World} {K : PySem.W.Frag} {mg : Str → Option Value} {base : Heap} {Tb : List (Addr × Str)} (T : Tx mg) (F : At K mg "steps_in" s_steps_in) (C_followers : Cal P w base ⟨K, mg, Lt, Tb⟩ "followers" 2 ["book", "speed"] m_followers) (C_choices_in : Cal P w base ⟨K, mg, Lt, Tb⟩ "choices_in" 3 ["book", "standing"] m_choices_in) : Cal P w base ⟨K, mg, Lt, Tb⟩ "steps_in" 4 ["book", "standing"] m_steps_in := by
  obtain ⟨f_followers, fd_followers, G_followers, g_followers, k_followers, B_followers⟩ := C_followers
  obtain ⟨f_choices_in, fd_choices_in, G_choices_in, g_choices_in, k_choices_in, B_choices_in⟩ := C_choices_in
  refine cal_of (k := 3) F sc_steps_in (fun _ _ _ _ _ _ us hl => match us, hl with | [_, _], _ => rfl) fun f cdv A outer s H E hr => ?_
  exact ss_cons (ss_set 2 sc_steps_in.nd rfl (by first | exact Or.inl rfl | exact Or.inr rfl) (se_call G_followers (hr.mono (by decide)) g_followers k_followers B_followers (takes_of rfl rfl rfl rfl) rfl (sa_cons (se_var 0) (sa_cons (se_ix rfl (hu1 hr) (sp_var 1) (sp_of (se_int)) (fun _ _ => rfl)) (sa_nil))))) (ss_one (ss_ret (se_new (sn_comp2 (own := [("own", 3), ("ahead", 4)]) (vs1 := [4]) rfl sc_steps_in.nd (si_tup rfl (se_call G_choices_in (hr.mono (by decide)) g_choices_in k_choices_in B_choices_in (takes_of rfl rfl rfl rfl) rfl (sa_cons (se_var 0) (sa_cons (se_var 1) (sa_nil))))) (blkOk_by (N := N_steps_in) (sc := defScope s_steps_in) (by decide +kernel)) (by decide) (bs_name 3) (by decide) (bs_name 4) (by decide) (fun _ _ _ _ _ => pg_name (i := 3) sc_steps_in.nd rfl (by first | exact Or.inl rfl | exact Or.inr rfl)) (fun _ _ _ _ _ => pts_nilS) (fun _ _ _ _ _ => si_list rfl (se_var 2)) (fun _ _ _ _ _ => pg_name (i := 4) sc_steps_in.nd rfl (by first | exact Or.inl rfl | exact Or.inr rfl)) (fun _ _ _ _ _ => pts_nilS) (fun _ _ _ _ _ => se_tup (sa_cons (se_var 3) (sa_cons (se_var 4) (sa_nil))))))))
def m_lam_0 : ME := mFn 4 m_is_row (mCons (mVar 2) (mCons (mVar 1) (mCons (mVar 3) (mCons (mVar 0) (mNil)))))
theorem lok_0 {P : Program} {w : World} {K : PySem.W.Frag} {mg : Str → Option Value} {base : Heap} {Tb : List (Addr × Str)} (T : Tx mg) (C_is_row : Cal P w base ⟨K, mg, Lt, Tb⟩ "is_row" 3 ["top", "up", "down", "thing"] m_is_row) : LamOk P w base ⟨K, mg, Lt, Tb⟩ 3 0 ["row"] m_lam_0 := by
  obtain ⟨f_is_row, fd_is_row, G_is_row, g_is_row, k_is_row, B_is_row⟩ := C_is_row
  exact ⟨(show LamSc lam_0.scope ["row"] lam_0.caps from lamSc_by (by decide +kernel)), fun cl pm cv ct us hl => match us, hl with | [_], _ => rfl, fun A outer s H E f c' cl hr => se_call G_is_row (hr.mono (by decide)) g_is_row k_is_row B_is_row (takes_of rfl rfl rfl rfl) rfl (sa_cons (se_var 2) (sa_cons (se_var 1) (sa_cons (se_var 3) (sa_cons (se_var 0) (sa_nil)))))⟩
def m_lam_1 : ME := mFn 3 m_is_whole (mCons (mVar 0) (mCons (mC (.int 0)) (mCons (mBin fSub (mPk 1) (mC (.int 1))) (mNil))))
theorem lok_1 {P : Program} {w : World} {K : PySem.W.Frag} {mg : Str → Option Value} {base : Heap} {Tb : List (Addr × Str)} (T : Tx mg) (C_is_whole : Cal P w base ⟨K, mg, Lt, Tb⟩ "is_whole" 1 ["thing", "least", "most"] m_is_whole) : LamOk P w base ⟨K, mg, Lt, Tb⟩ 3 1 ["aspect"] m_lam_1 := by
  obtain ⟨f_is_whole, fd_is_whole, G_is_whole, g_is_whole, k_is_whole, B_is_whole⟩ := C_is_whole
  exact ⟨(show LamSc lam_1.scope ["aspect"] lam_1.caps from lamSc_by (by decide +kernel)), fun cl pm cv ct us hl => match us, hl with | [_], _ => rfl, fun A outer s H E f c' cl hr => se_call G_is_whole (hr.mono (by decide)) g_is_whole k_is_whole B_is_whole (takes_of rfl rfl rfl rfl) rfl (sa_cons (se_var 0) (sa_cons (se_int) (sa_cons (se_bin op_sub os_sub (sp_var 1) (sp_of (se_int))) (sa_nil))))⟩
def LF : LFT := fun n => match n with
  | 0 => mLam 1 m_lam_0
  | 1 => mLam 1 m_lam_1
  | _ => fun _ _ _ => .stuck
theorem lam_all {P : Program} {w : World} {K : PySem.W.Frag} {mg : Str → Option Value} {base : Heap} {Tb : List (Addr × Str)} (T : Tx mg) (C_is_row : Cal P w base ⟨K, mg, Lt, Tb⟩ "is_row" 3 ["top", "up", "down", "thing"] m_is_row) (C_is_whole : Cal P w base ⟨K, mg, Lt, Tb⟩ "is_whole" 1 ["thing", "least", "most"] m_is_whole) : LamAll P w base ⟨K, mg, Lt, Tb⟩ 3 LF := fun n => match n with
  | 0 => .inl ⟨_, _, lok_0 T C_is_row, rfl⟩
  | 1 => .inl ⟨_, _, lok_1 T C_is_whole, rfl⟩
  | _ + 2 => .inr fun _ _ _ => rfl
theorem lat_0 {P : Program} {w : World} {K : PySem.W.Frag} {mg : Str → Option Value} {base : Heap} {Tb : List (Addr × Str)} {c Pt : Addr} (TB : LamX.TabB base mg c Pt) (hm : (Pt, ("book_fault.<locals>.<lambda>" : Str)) ∈ Tb) (hu : ∀ p ∈ Tb, p.1 = Pt → p.2 = ("book_fault.<locals>.<lambda>" : Str)) {f : Addr} {A : Around} {outer : List Env} {s : Shared} {H : Hp} {E : XK} :
    LamAt (cxOf (L2.CX P w) P w K mg base N_book_fault "book_fault" (defScope s_book_fault) f (.ref c) A outer s H E) ⟨K, mg, Lt, Tb⟩ 0 c Pt lam_0.params lam_0.body lam_0.scope := ⟨TB, rfl, hm, hu, rfl, rfl, rfl, rfl, rfl, (show ∀ y ∈ lam_0.scope.names, y.2 = .free → (defScope s_book_fault).names.lookup y.1 = some .cell ∨ (defScope s_book_fault).names.lookup y.1 = some .free by decide +kernel), rfl, fun _ => rfl⟩
theorem lat_1 {P : Program} {w : World} {K : PySem.W.Frag} {mg : Str → Option Value} {base : Heap} {Tb : List (Addr × Str)} {c Pt : Addr} (TB : LamX.TabB base mg c Pt) (hm : (Pt, ("book_fault.<locals>.<lambda>" : Str)) ∈ Tb) (hu : ∀ p ∈ Tb, p.1 = Pt → p.2 = ("book_fault.<locals>.<lambda>" : Str)) {f : Addr} {A : Around} {outer : List Env} {s : Shared} {H : Hp} {E : XK} :
    LamAt (cxOf (L2.CX P w) P w K mg base N_book_fault "book_fault" (defScope s_book_fault) f (.ref c) A outer s H E) ⟨K, mg, Lt, Tb⟩ 1 c Pt lam_1.params lam_1.body lam_1.scope := ⟨TB, rfl, hm, hu, rfl, rfl, rfl, rfl, rfl, (show ∀ y ∈ lam_1.scope.names, y.2 = .free → (defScope s_book_fault).names.lookup y.1 = some .cell ∨ (defScope s_book_fault).names.lookup y.1 = some .free by decide +kernel), rfl, fun _ => rfl⟩
theorem sc_first_fault : FnScope N_first_fault ["part", "thing", "most", "is_good"] (defScope s_first_fault) := ⟨rfl, rfl, rfl, by decide +kernel, rfl, by decide +kernel, by decide +kernel⟩
def m_first_fault : List D → G → R D := mDef 7 (mSeq (mIfS (mNotT (mTst (mFn 3 m_is_tuple_of (mCons (mVar 1) (mCons (mC (.int 1)) (mCons (mVar 2) (mNil))))))) (mRet (mTup (mCons (mVar 0) (mCons (mC .non) (mNil))))) (mSkip)) (mSeq (mAsg (mNew (mComp [5, 6] (mEnT (mVar 1)) (bTup [5, 6]) (mNotT (mTst (mCallV LF 3 (mCons (mVar 6) (mNil))))) (mVar 5))) (bName 4)) (mRet (mIf (mTst (mBin fNe (mPk 4) (mNew (mItems (mNil))))) (mTup (mCons (mVar 0) (mCons (mBin fIx (mPk 4) (mC (.int 0))) (mNil)))) (mC .non)))))
theorem ok_first_fault {P : Program} {w : World} {K : PySem.W.Frag} {mg : Str → Option Value} {base : Heap} {Tb : List (Addr × Str)} (T : Tx mg) (F : At K mg "first_fault" s_first_fault) (C_is_tuple_of : Cal P w base ⟨K, mg, Lt, Tb⟩ "is_tuple_of" 1 ["thing", "least", "most"] m_is_tuple_of) (LA : LamAll P w base ⟨K, mg, Lt, Tb⟩ 3 LF) : Cal P w base ⟨K, mg, Lt, Tb⟩ "first_fault" 5 ["part", "thing", "most", "is_good"] m_first_fault := by
  have b_enumerate := T.b_enumerate
  obtain ⟨f_is_tuple_of, fd_is_tuple_of, G_is_tuple_of, g_is_tuple_of, k_is_tuple_of, B_is_tuple_of⟩ := C_is_tuple_of
  refine cal_of (k := 4) F sc_first_fault (fun _ _ _ _ _ _ us hl => match us, hl with | [_, _, _, _], _ => rfl) fun f cdv A outer s H E hr => ?_
  exact ss_cons (ss_if (st_not (st_val (se_call G_is_tuple_of (hr.mono (by decide)) g_is_tuple_of k_is_tuple_of B_is_tuple_of (takes_of rfl rfl rfl rfl) rfl (sa_cons (se_var 1) (sa_cons (se_int) (sa_cons (se_var 2) (sa_nil))))))) (ss_one (ss_ret (se_tup (sa_cons (se_var 0) (sa_cons (se_non) (sa_nil)))))) (ss_nil)) (ss_cons (ss_val (ss_comp (i := 4) (own := [("number", 5), ("one", 6)]) rfl sc_first_fault.nd rfl rfl (sw_true rfl rfl rfl (by decide +kernel)) (si_enT rfl b_enumerate (se_var 1)) (blkOk_by (N := N_first_fault) (sc := defScope s_first_fault) (by decide +kernel)) (bs_tup [5, 6]) (by decide) (fun _ _ _ _ _ => pg_tup rfl (pgs_names_cons (i := 5) sc_first_fault.nd rfl (by first | exact Or.inl rfl | exact Or.inr rfl) (pgs_names_cons (i := 6) sc_first_fault.nd rfl (by first | exact Or.inl rfl | exact Or.inr rfl) (pgs_names_nil)))) (fun _ _ _ _ _ => pts_oneS (st_not (st_val (se_callv 3 LA (hr.mono (by decide)) takes0 (sa_cons (se_var 6) (sa_nil)))))) (fun _ _ _ _ _ => se_var 5))) (ss_one (ss_ret (se_if (st_cmp (op_neD (hu64 hr)) os_ne.s (sp_var 4) (sp_of (se_new (sn_lst (sa_nil))))) (se_tup (sa_cons (se_var 0) (sa_cons (se_ix rfl (hu1 hr) (sp_var 4) (sp_of (se_int)) (fun _ _ => rfl)) (sa_nil)))) (se_non)))))
theorem sc_is_step_in : FnScope N_is_step_in ["book", "standing", "step"] (defScope s_is_step_in) := ⟨rfl, rfl, rfl, by decide +kernel, rfl, by decide +kernel, by decide +kernel⟩
def m_is_step_in : List D → G → R D := mDef 4 (mSeq (mIfS (mOrT (mNotT (mTst (mFn 3 m_is_tuple_of (mCons (mVar 2) (mCons (mC (.int 2)) (mCons (mC (.int 2)) (mNil))))))) (mNotT (mTst (mBlt fAll (mCons (mNew (mComp [3] (mItT (mVar 2)) (bName 3) (mYes) (mFn 3 m_is_whole (mCons (mVar 3) (mCons (mC (.int 0)) (mCons (mC .non) (mNil))))))) (mNil)))))) (mRet (mC (.bl false))) (mSkip)) (mRet (mBin fIn (mPk 2) (mFn 2 m_steps_in (mCons (mVar 0) (mCons (mVar 1) (mNil)))))))
theorem ok_is_step_in {P : Program} {w : World} {K : PySem.W.Frag} {mg : Str → Option Value} {base : Heap} {Tb : List (Addr × Str)} (T : Tx mg) (F : At K mg "is_step_in" s_is_step_in) (C_is_tuple_of : Cal P w base ⟨K, mg, Lt, Tb⟩ "is_tuple_of" 1 ["thing", "least", "most"] m_is_tuple_of) (C_is_whole : Cal P w base ⟨K, mg, Lt, Tb⟩ "is_whole" 1 ["thing", "least", "most"] m_is_whole) (C_steps_in : Cal P w base ⟨K, mg, Lt, Tb⟩ "steps_in" 4 ["book", "standing"] m_steps_in) : Cal P w base ⟨K, mg, Lt, Tb⟩ "is_step_in" 5 ["book", "standing", "step"] m_is_step_in := by
  have b_all := T.b_all
  obtain ⟨f_is_tuple_of, fd_is_tuple_of, G_is_tuple_of, g_is_tuple_of, k_is_tuple_of, B_is_tuple_of⟩ := C_is_tuple_of
  obtain ⟨f_is_whole, fd_is_whole, G_is_whole, g_is_whole, k_is_whole, B_is_whole⟩ := C_is_whole
  obtain ⟨f_steps_in, fd_steps_in, G_steps_in, g_steps_in, k_steps_in, B_steps_in⟩ := C_steps_in
  refine cal_of (k := 4) F sc_is_step_in (fun _ _ _ _ _ _ us hl => match us, hl with | [_, _, _], _ => rfl) fun f cdv A outer s H E hr => ?_
  exact ss_cons (ss_if (PW.pt (st_or (st_not (st_val (se_call G_is_tuple_of (hr.mono (by decide)) g_is_tuple_of k_is_tuple_of B_is_tuple_of (takes_of rfl rfl rfl rfl) rfl (sa_cons (se_var 2) (sa_cons (se_int) (sa_cons (se_int) (sa_nil))))))) (st_or1 (st_not (st_val (se_blt (cr_all rfl) cs_all rfl b_all bb_all (pa_consP (sp_of (se_new (sn_comp (own := [("one", 3)]) rfl sc_is_step_in.nd (si_tup rfl (se_var 2)) (blkOk_by (N := N_is_step_in) (sc := defScope s_is_step_in) (by decide +kernel)) (bs_name 3) (by decide) (fun _ _ _ _ _ => pg_name (i := 3) sc_is_step_in.nd rfl (by first | exact Or.inl rfl | exact Or.inr rfl)) (fun _ _ _ _ _ => pts_nilS) (fun _ _ _ _ _ => se_call G_is_whole (hr.mono (by decide)) g_is_whole k_is_whole B_is_whole takes0 rfl (sa_cons (se_var 3) (sa_cons (se_int) (sa_cons (se_non) (sa_nil)))))))) (pa_nilP)))))))) (ss_one (ss_ret (se_bl))) (ss_nil)) (ss_one (ss_ret (se_cmp (op_inA (hu65 hr)) os_in.s (sp_var 2) (sp_of (se_call G_steps_in (hr.mono (by decide)) g_steps_in k_steps_in B_steps_in (takes_of rfl rfl rfl rfl) rfl (sa_cons (se_var 0) (sa_cons (se_var 1) (sa_nil))))))))
theorem sc_coming_in : FnScope N_coming_in ["book"] (defScope s_coming_in) := ⟨rfl, rfl, rfl, by decide +kernel, rfl, by decide +kernel, by decide +kernel⟩
def m_coming_in : List D → G → R D := mDef 6 (mSeq (mSetD 1 (mDc (.T []) [3] (mItL (mFn 1 m_starts_in (mCons (mVar 0) (mNil)))) (bName 3) (mYes) (mVar 3) (mC (.bl true)))) (mSeq (mSetO 2 (mListN (mPk 1))) (mSeq (mWhile 1000 (mTst (mBin fNe (mPk 2) (mNew (mItems (mNil))))) (mSeq (mPop 3 2) (mFor (mItL (mFn 2 m_steps_in (mCons (mVar 0) (mCons (mVar 3) (mNil))))) (bName 4) (mFor (mItL (mFn 3 m_leads_in (mCons (mVar 0) (mCons (mVar 3) (mCons (mVar 4) (mNil)))))) (bName 5) (mIfS (mTst (mBin fNotIn (mPk 5) (mPk 1))) (mSeq (mPut 1 (mVar 5) (mC (.bl true))) (mApp 2 (mVar 5))) (mSkip)))))) (mFrz 1 (mRet (mVar 1))))))
theorem ok_coming_in {P : Program} {w : World} {K : PySem.W.Frag} {mg : Str → Option Value} {base : Heap} {Tb : List (Addr × Str)} (T : Tx mg) (F : At K mg "coming_in" s_coming_in) (C_starts_in : Cal P w base ⟨K, mg, Lt, Tb⟩ "starts_in" 3 ["book"] m_starts_in) (C_steps_in : Cal P w base ⟨K, mg, Lt, Tb⟩ "steps_in" 4 ["book", "standing"] m_steps_in) (C_leads_in : Cal P w base ⟨K, mg, Lt, Tb⟩ "leads_in" 2 ["book", "standing", "step"] m_leads_in) : Cal P w base ⟨K, mg, Lt, Tb⟩ "coming_in" 5 ["book"] m_coming_in := by
  have b_list := T.b_list
  obtain ⟨f_starts_in, fd_starts_in, G_starts_in, g_starts_in, k_starts_in, B_starts_in⟩ := C_starts_in
  obtain ⟨f_steps_in, fd_steps_in, G_steps_in, g_steps_in, k_steps_in, B_steps_in⟩ := C_steps_in
  obtain ⟨f_leads_in, fd_leads_in, G_leads_in, g_leads_in, k_leads_in, B_leads_in⟩ := C_leads_in
  refine cal_of (k := 4) F sc_coming_in (fun _ _ _ _ _ _ us hl => match us, hl with | [_], _ => rfl) fun f cdv A outer s H E hr => ?_
  exact ss_cons (ss_ownD 1 (ss_dc (i := 1) (s0 := (.T [])) (own := [("standing", 3)]) (hu0 hr) rfl sc_coming_in.nd rfl rfl (sw_trueD rfl rfl rfl (by decide +kernel)) (si_list rfl (se_call G_starts_in (hr.mono (by decide)) g_starts_in k_starts_in B_starts_in (takes_of rfl rfl rfl rfl) rfl (sa_cons (se_var 0) (sa_nil)))) (blkOk_by (N := N_coming_in) (sc := defScope s_coming_in) (by decide +kernel)) (bs_name 3) (by decide) (fun _ _ _ _ _ => pg_name (i := 3) sc_coming_in.nd rfl (by first | exact Or.inl rfl | exact Or.inr rfl)) (fun _ _ _ _ _ => pts_nilS) (fun _ _ _ _ _ => se_var 3) (fun _ _ _ _ _ => se_bl))) (ss_cons (ss_own 2 (ps_set (i := 2) sc_coming_in.nd rfl (by first | exact Or.inl rfl | exact Or.inr rfl) (sn_list rfl rfl rfl b_list (sp_var 1)))) (ss_cons (ss_while 1000 (passes_of rfl) (st_cmp (op_neD (hu64 hr)) os_ne.s (sp_var 2) (sp_of (se_new (sn_lst (sa_nil))))) (ss_cons (ss_pop (ps_set (i := 3) sc_coming_in.nd rfl (by first | exact Or.inl rfl | exact Or.inr rfl) (pe_bm0 PySem.F.plainAttrs_list PySem.F.slot_list_pop PySem.F.type_list_pop mt_pop (pv 2)))) (ss_one (ss_for (passes_of rfl) rfl (si_list rfl (se_call G_steps_in (hr.mono (by decide)) g_steps_in k_steps_in B_steps_in (takes_of rfl rfl rfl rfl) rfl (sa_cons (se_var 0) (sa_cons (se_var 3) (sa_nil))))) (pg_name (i := 4) sc_coming_in.nd rfl (by first | exact Or.inl rfl | exact Or.inr rfl)) (bs_name 4) (ss_one (ss_for (passes_of rfl) rfl (si_list rfl (se_call G_leads_in (hr.mono (by decide)) g_leads_in k_leads_in B_leads_in (takes_of rfl rfl rfl rfl) rfl (sa_cons (se_var 0) (sa_cons (se_var 3) (sa_cons (se_var 4) (sa_nil)))))) (pg_name (i := 5) sc_coming_in.nd rfl (by first | exact Or.inl rfl | exact Or.inr rfl)) (bs_name 5) (ss_one (ss_if (st_cmp (op_notInA (hu65 hr)) os_notIn.s (sp_var 5) (sp_var 1)) (ss_cons (ss_put (o := noE) 1 (hu1 hr) rfl (by first | exact Or.inl rfl | exact Or.inr (Or.inl rfl) | exact Or.inr (Or.inr rfl)) (by decide) (by decide) (se_var 5) (se_bl) rfl) (ss_one (ss_app (ps_expr (pe_bm PySem.F.plainAttrs_list PySem.F.slot_list_append PySem.F.type_list_append mt_append (pv 2) (pa_cons (se_var 5) pa_nil)))))) (ss_nil))))))))) (ss_one (ss_frz 1 (ss_ret (se_var 1))))))
theorem sc_crash_steps : FnScope N_crash_steps ["book", "standing"] (defScope s_crash_steps) := ⟨rfl, rfl, rfl, by decide +kernel, rfl, by decide +kernel, by decide +kernel⟩
def m_crash_steps : List D → G → R D := mDef 3 (mRet (mNew (mComp [2] (mItL (mFn 2 m_steps_in (mCons (mVar 0) (mCons (mVar 1) (mNil))))) (bName 2) (mTst (mBin fLt (mBin fSub (mBin fAdd (mBin fIx (mPk 1) (mC (.int 0))) (mBin fIx (mPk 2) (mC (.int 1)))) (mBin fIx (mPk 2) (mC (.int 0)))) (mC (.int 0)))) (mVar 2))))
theorem ok_crash_steps {P : Program} {w : World} {K : PySem.W.Frag} {mg : Str → Option Value} {base : Heap} {Tb : List (Addr × Str)} (T : Tx mg) (F : At K mg "crash_steps" s_crash_steps) (C_steps_in : Cal P w base ⟨K, mg, Lt, Tb⟩ "steps_in" 4 ["book", "standing"] m_steps_in) : Cal P w base ⟨K, mg, Lt, Tb⟩ "crash_steps" 5 ["book", "standing"] m_crash_steps := by
  obtain ⟨f_steps_in, fd_steps_in, G_steps_in, g_steps_in, k_steps_in, B_steps_in⟩ := C_steps_in
  refine cal_of (k := 4) F sc_crash_steps (fun _ _ _ _ _ _ us hl => match us, hl with | [_, _], _ => rfl) fun f cdv A outer s H E hr => ?_
  exact ss_one (ss_ret (se_new (sn_comp (own := [("step", 2)]) rfl sc_crash_steps.nd (si_list rfl (se_call G_steps_in (hr.mono (by decide)) g_steps_in k_steps_in B_steps_in (takes_of rfl rfl rfl rfl) rfl (sa_cons (se_var 0) (sa_cons (se_var 1) (sa_nil))))) (blkOk_by (N := N_crash_steps) (sc := defScope s_crash_steps) (by decide +kernel)) (bs_name 2) (by decide) (fun _ _ _ _ _ => pg_name (i := 2) sc_crash_steps.nd rfl (by first | exact Or.inl rfl | exact Or.inr rfl)) (fun _ _ _ _ _ => pts_oneS (st_cmp (op_ltA (hu0 hr)) os_lt.s (sp_of (se_bin op_sub os_sub (sp_of (se_bin op_addA os_add (sp_of (se_ix rfl (hu1 hr) (sp_var 1) (sp_of (se_int)) (fun _ _ => rfl))) (sp_of (se_ix rfl (hu1 hr) (sp_var 2) (sp_of (se_int)) (fun _ _ => rfl))))) (sp_of (se_ix rfl (hu1 hr) (sp_var 2) (sp_of (se_int)) (fun _ _ => rfl))))) (sp_of (se_int)))) (fun _ _ _ _ _ => se_var 2))))
theorem sc_is_closed : FnScope N_is_closed ["book", "table"] (defScope s_is_closed) := ⟨rfl, rfl, rfl, by decide +kernel, rfl, by decide +kernel, by decide +kernel⟩
def m_is_closed : List D → G → R D := mDef 9 (mSeq (mIfS (mNotT (mTst (mBlt fAll (mCons (mNew (mComp [3] (mItA (mVar 1)) (bName 3) (mYes) (mFn 2 m_is_standing_in (mCons (mVar 0) (mCons (mVar 3) (mNil)))))) (mNil))))) (mRet (mC (.bl false))) (mSkip)) (mSeq (mIfS (mNotT (mTst (mBlt fAll (mCons (mNew (mComp [6, 7] (mZip (mVar 1) (mSl (mPk 1) (mPart (mC (.int 1))) (mNo))) (bTup [6, 7]) (mYes) (mBin fLt (mPk 6) (mPk 7)))) (mNil))))) (mRet (mC (.bl false))) (mSkip)) (mSeq (mAsg (mNewD (mDc (.T []) [3] (mItA (mVar 1)) (bName 3) (mYes) (mVar 3) (mC (.bl true)))) (bName 2)) (mSeq (mIfS (mNotT (mTst (mBlt fAll (mCons (mNew (mComp [3] (mItL (mFn 1 m_starts_in (mCons (mVar 0) (mNil)))) (bName 3) (mYes) (mBin fIn (mPk 3) (mPk 2)))) (mNil))))) (mRet (mC (.bl false))) (mSkip)) (mSeq (mFor (mItA (mVar 1)) (bName 3) (mFor (mItL (mFn 2 m_steps_in (mCons (mVar 0) (mCons (mVar 3) (mNil))))) (bName 4) (mSeq (mAsg (mFn 3 m_leads_in (mCons (mVar 0) (mCons (mVar 3) (mCons (mVar 4) (mNil))))) (bName 5)) (mIfS (mOrT (mTst (mBin fEq (mPk 5) (mNew (mItems (mNil))))) (mNotT (mTst (mBlt fAll (mCons (mNew (mComp [8] (mItL (mVar 5)) (bName 8) (mYes) (mBin fIn (mPk 8) (mPk 2)))) (mNil)))))) (mRet (mC (.bl false))) (mSkip))))) (mRet (mC (.bl true))))))))
theorem ok_is_closed {P : Program} {w : World} {K : PySem.W.Frag} {mg : Str → Option Value} {base : Heap} {Tb : List (Addr × Str)} (T : Tx mg) (F : At K mg "is_closed" s_is_closed) (C_is_standing_in : Cal P w base ⟨K, mg, Lt, Tb⟩ "is_standing_in" 2 ["book", "thing"] m_is_standing_in) (C_starts_in : Cal P w base ⟨K, mg, Lt, Tb⟩ "starts_in" 3 ["book"] m_starts_in) (C_steps_in : Cal P w base ⟨K, mg, Lt, Tb⟩ "steps_in" 4 ["book", "standing"] m_steps_in) (C_leads_in : Cal P w base ⟨K, mg, Lt, Tb⟩ "leads_in" 2 ["book", "standing", "step"] m_leads_in) : Cal P w base ⟨K, mg, Lt, Tb⟩ "is_closed" 5 ["book", "table"] m_is_closed := by
  have b_all := T.b_all
  have b_zip := T.b_zip
  obtain ⟨f_is_standing_in, fd_is_standing_in, G_is_standing_in, g_is_standing_in, k_is_standing_in, B_is_standing_in⟩ := C_is_standing_in
  obtain ⟨f_starts_in, fd_starts_in, G_starts_in, g_starts_in, k_starts_in, B_starts_in⟩ := C_starts_in
  obtain ⟨f_steps_in, fd_steps_in, G_steps_in, g_steps_in, k_steps_in, B_steps_in⟩ := C_steps_in
  obtain ⟨f_leads_in, fd_leads_in, G_leads_in, g_leads_in, k_leads_in, B_leads_in⟩ := C_leads_in
  refine cal_of (k := 4) F sc_is_closed (fun _ _ _ _ _ _ us hl => match us, hl with | [_, _], _ => rfl) fun f cdv A outer s H E hr => ?_
  exact ss_cons (ss_if (st_not (st_val (se_blt (cr_all rfl) cs_all rfl b_all bb_all (pa_consP (sp_of (se_new (sn_comp (own := [("standing", 3)]) rfl sc_is_closed.nd (si_any rfl (se_var 1)) (blkOk_by (N := N_is_closed) (sc := defScope s_is_closed) (by decide +kernel)) (bs_name 3) (by decide) (fun _ _ _ _ _ => pg_name (i := 3) sc_is_closed.nd rfl (by first | exact Or.inl rfl | exact Or.inr rfl)) (fun _ _ _ _ _ => pts_nilS) (fun _ _ _ _ _ => se_call G_is_standing_in (hr.mono (by decide)) g_is_standing_in k_is_standing_in B_is_standing_in takes0 rfl (sa_cons (se_var 0) (sa_cons (se_var 3) (sa_nil))))))) (pa_nilP))))) (ss_one (ss_ret (se_bl))) (ss_nil)) (ss_cons (ss_if (st_not (st_val (se_blt (cr_all rfl) cs_all rfl b_all bb_all (pa_consP (sp_of (se_new (sn_comp (own := [("one", 6), ("other", 7)]) rfl sc_is_closed.nd (si_zip rfl rfl b_zip (se_var 1) (se_slice rfl (sp_var 1) (so_some (se_int)) (so_none))) (blkOk_by (N := N_is_closed) (sc := defScope s_is_closed) (by decide +kernel)) (bs_tup [6, 7]) (by decide) (fun _ _ _ _ _ => pg_tup rfl (pgs_names_cons (i := 6) sc_is_closed.nd rfl (by first | exact Or.inl rfl | exact Or.inr rfl) (pgs_names_cons (i := 7) sc_is_closed.nd rfl (by first | exact Or.inl rfl | exact Or.inr rfl) (pgs_names_nil)))) (fun _ _ _ _ _ => pts_nilS) (fun _ _ _ _ _ => se_cmp (op_ltA (hu0 hr)) os_lt.s (sp_var 6) (sp_var 7))))) (pa_nilP))))) (ss_one (ss_ret (se_bl))) (ss_nil)) (ss_cons (ss_set 2 sc_is_closed.nd rfl (by first | exact Or.inl rfl | exact Or.inr rfl) (se_newD (sn_dc (s0 := (.T [])) (own := [("standing", 3)]) (hu0 hr) rfl sc_is_closed.nd (si_any rfl (se_var 1)) (blkOk_by (N := N_is_closed) (sc := defScope s_is_closed) (by decide +kernel)) (bs_name 3) (by decide) (fun _ _ _ _ _ => pg_name (i := 3) sc_is_closed.nd rfl (by first | exact Or.inl rfl | exact Or.inr rfl)) (fun _ _ _ _ _ => pts_nilS) (fun _ _ _ _ _ => se_var 3) (fun _ _ _ _ _ => se_bl)))) (ss_cons (ss_if (st_not (st_val (se_blt (cr_all rfl) cs_all rfl b_all bb_all (pa_consP (sp_of (se_new (sn_comp (own := [("standing", 3)]) rfl sc_is_closed.nd (si_list rfl (se_call G_starts_in (hr.mono (by decide)) g_starts_in k_starts_in B_starts_in (takes_of rfl rfl rfl rfl) rfl (sa_cons (se_var 0) (sa_nil)))) (blkOk_by (N := N_is_closed) (sc := defScope s_is_closed) (by decide +kernel)) (bs_name 3) (by decide) (fun _ _ _ _ _ => pg_name (i := 3) sc_is_closed.nd rfl (by first | exact Or.inl rfl | exact Or.inr rfl)) (fun _ _ _ _ _ => pts_nilS) (fun _ _ _ _ _ => se_cmp (op_inA (hu65 hr)) os_in.s (sp_var 3) (sp_var 2))))) (pa_nilP))))) (ss_one (ss_ret (se_bl))) (ss_nil)) (ss_cons (ss_for (passes_of rfl) rfl (si_any rfl (se_var 1)) (pg_name (i := 3) sc_is_closed.nd rfl (by first | exact Or.inl rfl | exact Or.inr rfl)) (bs_name 3) (ss_one (ss_for (passes_of rfl) rfl (si_list rfl (se_call G_steps_in (hr.mono (by decide)) g_steps_in k_steps_in B_steps_in (takes_of rfl rfl rfl rfl) rfl (sa_cons (se_var 0) (sa_cons (se_var 3) (sa_nil))))) (pg_name (i := 4) sc_is_closed.nd rfl (by first | exact Or.inl rfl | exact Or.inr rfl)) (bs_name 4) (ss_cons (ss_set 5 sc_is_closed.nd rfl (by first | exact Or.inl rfl | exact Or.inr rfl) (se_call G_leads_in (hr.mono (by decide)) g_leads_in k_leads_in B_leads_in (takes_of rfl rfl rfl rfl) rfl (sa_cons (se_var 0) (sa_cons (se_var 3) (sa_cons (se_var 4) (sa_nil)))))) (ss_one (ss_if (PW.pt (st_or (st_cmp (op_eqD (hu64 hr)) os_eq.s (sp_var 5) (sp_of (se_new (sn_lst (sa_nil))))) (st_or1 (st_not (st_val (se_blt (cr_all rfl) cs_all rfl b_all bb_all (pa_consP (sp_of (se_new (sn_comp (own := [("far", 8)]) rfl sc_is_closed.nd (si_list rfl (se_var 5)) (blkOk_by (N := N_is_closed) (sc := defScope s_is_closed) (by decide +kernel)) (bs_name 8) (by decide) (fun _ _ _ _ _ => pg_name (i := 8) sc_is_closed.nd rfl (by first | exact Or.inl rfl | exact Or.inr rfl)) (fun _ _ _ _ _ => pts_nilS) (fun _ _ _ _ _ => se_cmp (op_inA (hu65 hr)) os_in.s (sp_var 8) (sp_var 2))))) (pa_nilP)))))))) (ss_one (ss_ret (se_bl))) (ss_nil))))))) (ss_one (ss_ret (se_bl)))))))
theorem sc_book_fault : FnScope N_book_fault ["thing"] (defScope s_book_fault) := ⟨rfl, rfl, rfl, by decide +kernel, rfl, by decide +kernel, by decide +kernel⟩
def m_book_fault : List D → G → R D := mDef 6 (mSeq (mIfS (mNotT (mTst (mFn 3 m_is_tuple_of (mCons (mVar 0) (mCons (mC (.int 7)) (mCons (mC (.int 7)) (mNil))))))) (mRet (mTup (mCons (mC (.str "form")) (mCons (mC .non) (mNil))))) (mSkip)) (mSeq (mAsg (mFn 1 m_numbers_fault (mCons (mVar 0) (mNil))) (bName 1)) (mSeq (mIfS (mTst (mBin fNotN (mPk 1) (mC .non))) (mRet (mVar 1)) (mSkip)) (mSeq (mAsg (mSl (mPk 0) (mNo) (mPart (mC (.int 3)))) (bTup [2, 3, 4])) (mSeq (mAsg (mLamCall 4 0 [3, 2, 4] m_first_fault (mCons (mC (.str "rules")) (mCons (mBin fIx (mPk 0) (mC (.int 5))) (mCons (mC (.int 6)) (mNil))))) (bName 1)) (mSeq (mIfS (mTst (mBin fNotN (mPk 1) (mC .non))) (mRet (mVar 1)) (mSkip)) (mSeq (mAsg (mBlt fLen (mCons (mBin fIx (mPk 0) (mC (.int 5))) (mNil))) (bName 5)) (mSeq (mAsg (mLamCall 4 1 [5] m_first_fault (mCons (mC (.str "looks")) (mCons (mBin fIx (mPk 0) (mC (.int 4))) (mCons (mC (.int 6)) (mNil))))) (bName 1)) (mSeq (mIfS (mTst (mBin fNotN (mPk 1) (mC .non))) (mRet (mVar 1)) (mSkip)) (mRet (mIf (mTst (mIsi tabBool (mBin fIx (mPk 0) (mC (.int 6))))) (mC .non) (mTup (mCons (mC (.str "late")) (mCons (mC .non) (mNil)))))))))))))))
theorem ok_book_fault {P : Program} {w : World} {K : PySem.W.Frag} {mg : Str → Option Value} {base : Heap} {Tb : List (Addr × Str)} (T : Tx mg) {c Pt : Addr} (TB : LamX.TabB base mg c Pt) (hmT : (Pt, ("book_fault.<locals>.<lambda>" : Str)) ∈ Tb) (huT : ∀ p ∈ Tb, p.1 = Pt → p.2 = ("book_fault.<locals>.<lambda>" : Str)) (F : AtC K mg "book_fault" s_book_fault c) (C_is_tuple_of : Cal P w base ⟨K, mg, Lt, Tb⟩ "is_tuple_of" 1 ["thing", "least", "most"] m_is_tuple_of) (C_numbers_fault : Cal P w base ⟨K, mg, Lt, Tb⟩ "numbers_fault" 2 ["thing"] m_numbers_fault) (C_first_fault : Cal P w base ⟨K, mg, Lt, Tb⟩ "first_fault" 5 ["part", "thing", "most", "is_good"] m_first_fault) : Cal P w base ⟨K, mg, Lt, Tb⟩ "book_fault" 6 ["thing"] m_book_fault := by
  have b_len := T.b_len
  have b_isinstance := T.b_isinstance
  have b_bool := T.b_bool
  obtain ⟨t_PARTS, c_PARTS⟩ := T.c_PARTS
  obtain ⟨t_MOST_ROWS, c_MOST_ROWS⟩ := T.c_MOST_ROWS
  obtain ⟨t_RULES, c_RULES⟩ := T.c_RULES
  obtain ⟨t_MOST_LOOKS, c_MOST_LOOKS⟩ := T.c_MOST_LOOKS
  obtain ⟨t_LOOKS, c_LOOKS⟩ := T.c_LOOKS
  obtain ⟨t_LATE, c_LATE⟩ := T.c_LATE
  obtain ⟨f_is_tuple_of, fd_is_tuple_of, G_is_tuple_of, g_is_tuple_of, k_is_tuple_of, B_is_tuple_of⟩ := C_is_tuple_of
  obtain ⟨f_numbers_fault, fd_numbers_fault, G_numbers_fault, g_numbers_fault, k_numbers_fault, B_numbers_fault⟩ := C_numbers_fault
  obtain ⟨f_first_fault, fd_first_fault, G_first_fault, g_first_fault, k_first_fault, B_first_fault⟩ := C_first_fault
  refine def_okC (k := 5) F sc_book_fault (fun _ _ _ _ _ _ us hl => match us, hl with | [_], _ => rfl) fun f A outer s H E hr => ?_
  exact ss_cons (ss_if (st_not (st_val (se_call G_is_tuple_of (hr.mono (by decide)) g_is_tuple_of k_is_tuple_of B_is_tuple_of (takes_of rfl rfl rfl rfl) rfl (sa_cons (se_var 0) (sa_cons (se_gint rfl c_PARTS) (sa_cons (se_gint rfl c_PARTS) (sa_nil))))))) (ss_one (ss_ret (se_tup (sa_cons (se_str) (sa_cons (se_non) (sa_nil)))))) (ss_nil)) (ss_cons (ss_set 1 sc_book_fault.nd rfl (by first | exact Or.inl rfl | exact Or.inr rfl) (se_call G_numbers_fault (hr.mono (by decide)) g_numbers_fault k_numbers_fault B_numbers_fault (takes_of rfl rfl rfl rfl) rfl (sa_cons (se_var 0) (sa_nil)))) (ss_cons (ss_if (st_cmp op_notN os_notN.s (sp_var 1) (sp_of (se_non))) (ss_one (ss_ret (se_var 1))) (ss_nil)) (ss_cons (ss_setT [2, 3, 4] rfl rfl (pgs_names_cons (i := 2) sc_book_fault.nd rfl (by first | exact Or.inl rfl | exact Or.inr rfl) (pgs_names_cons (i := 3) sc_book_fault.nd rfl (by first | exact Or.inl rfl | exact Or.inr rfl) (pgs_names_cons (i := 4) sc_book_fault.nd rfl (by first | exact Or.inl rfl | exact Or.inr rfl) (pgs_names_nil)))) (se_slice rfl (sp_var 0) (so_none) (so_some (se_int)))) (ss_cons (ss_set 1 sc_book_fault.nd rfl (by first | exact Or.inl rfl | exact Or.inr rfl) (se_lamcall [3, 2, 4] G_first_fault (hr.mono (by decide)) g_first_fault k_first_fault B_first_fault (takes_of rfl rfl rfl rfl) rfl (lat_0 TB hmT huT) (sal_cons (se_str) (sal_cons (se_ix rfl (hu1 hr) (sp_var 0) (sp_of (se_gint rfl c_RULES)) (fun _ _ => rfl)) (sal_cons (se_gint rfl c_MOST_ROWS) (sal_one (lat_0 TB hmT huT))))))) (ss_cons (ss_if (st_cmp op_notN os_notN.s (sp_var 1) (sp_of (se_non))) (ss_one (ss_ret (se_var 1))) (ss_nil)) (ss_cons (ss_set 5 sc_book_fault.nd rfl (by first | exact Or.inl rfl | exact Or.inr rfl) (se_blt call_lenA cs_len rfl b_len bb_len (pa_consP (sp_of (se_ix rfl (hu1 hr) (sp_var 0) (sp_of (se_gint rfl c_RULES)) (fun _ _ => rfl))) (pa_nilP)))) (ss_cons (ss_set 1 sc_book_fault.nd rfl (by first | exact Or.inl rfl | exact Or.inr rfl) (se_lamcall [5] G_first_fault (hr.mono (by decide)) g_first_fault k_first_fault B_first_fault (takes_of rfl rfl rfl rfl) rfl (lat_1 TB hmT huT) (sal_cons (se_str) (sal_cons (se_ix rfl (hu1 hr) (sp_var 0) (sp_of (se_gint rfl c_LOOKS)) (fun _ _ => rfl)) (sal_cons (se_gint rfl c_MOST_LOOKS) (sal_one (lat_1 TB hmT huT))))))) (ss_cons (ss_if (st_cmp op_notN os_notN.s (sp_var 1) (sp_of (se_non))) (ss_one (ss_ret (se_var 1))) (ss_nil)) (ss_one (ss_ret (se_if (st_val (se_isi rfl tabBool_ok (sp_of (se_ix rfl (hu1 hr) (sp_var 0) (sp_of (se_gint rfl c_LATE)) (fun _ _ => rfl))) rfl b_isinstance rfl b_bool bb_bool)) (se_non) (se_tup (sa_cons (se_str) (sa_cons (se_non) (sa_nil)))))))))))))))
theorem sc_crash_in : FnScope N_crash_in ["book"] (defScope s_crash_in) := ⟨rfl, rfl, rfl, by decide +kernel, rfl, by decide +kernel, by decide +kernel⟩
def m_crash_in : List D → G → R D := mDef 7 (mSeq (mSetD 1 (mDc (.T []) [3] (mItL (mFn 1 m_starts_in (mCons (mVar 0) (mNil)))) (bName 3) (mYes) (mVar 3) (mTup (mCons (mVar 3) (mCons (mNew (mItems (mNil))) (mNil)))))) (mSeq (mAsg (mBlt fSorted (mCons (mNew (mListN (mPk 1))) (mNil))) (bName 2)) (mSeq (mWhile 1000 (mTst (mBin fNe (mPk 2) (mNew (mItems (mNil))))) (mSeq (mFor (mItL (mVar 2)) (bName 3) (mFor (mItL (mFn 2 m_crash_steps (mCons (mVar 0) (mCons (mVar 3) (mNil))))) (bName 5) (mRet (mTup (mCons (mBin fIx (mBin fIx (mPk 1) (mPk 3)) (mC (.int 0))) (mCons (mBin fAdd (mBin fIx (mBin fIx (mPk 1) (mPk 3)) (mC (.int 1))) (mNew (mItems (mCons (mTup (mCons (mVar 5) (mCons (mC .non) (mNil)))) (mNil))))) (mNil))))))) (mSeq (mSetO 4 (mItems (mNil))) (mSeq (mFor (mItL (mVar 2)) (bName 3) (mFor (mItL (mFn 2 m_steps_in (mCons (mVar 0) (mCons (mVar 3) (mNil))))) (bName 5) (mFor (mItL (mFn 3 m_leads_in (mCons (mVar 0) (mCons (mVar 3) (mCons (mVar 5) (mNil)))))) (bName 6) (mIfS (mTst (mBin fNotIn (mPk 6) (mPk 1))) (mSeq (mPut 1 (mVar 6) (mTup (mCons (mBin fIx (mBin fIx (mPk 1) (mPk 3)) (mC (.int 0))) (mCons (mBin fAdd (mBin fIx (mBin fIx (mPk 1) (mPk 3)) (mC (.int 1))) (mNew (mItems (mCons (mTup (mCons (mVar 5) (mCons (mVar 6) (mNil)))) (mNil))))) (mNil))))) (mApp 4 (mVar 6))) (mSkip))))) (mFrz 4 (mAsg (mVar 4) (bName 2))))))) (mRet (mC .non)))))
theorem ok_crash_in {P : Program} {w : World} {K : PySem.W.Frag} {mg : Str → Option Value} {base : Heap} {Tb : List (Addr × Str)} (T : Tx mg) (F : At K mg "crash_in" s_crash_in) (C_starts_in : Cal P w base ⟨K, mg, Lt, Tb⟩ "starts_in" 3 ["book"] m_starts_in) (C_crash_steps : Cal P w base ⟨K, mg, Lt, Tb⟩ "crash_steps" 5 ["book", "standing"] m_crash_steps) (C_steps_in : Cal P w base ⟨K, mg, Lt, Tb⟩ "steps_in" 4 ["book", "standing"] m_steps_in) (C_leads_in : Cal P w base ⟨K, mg, Lt, Tb⟩ "leads_in" 2 ["book", "standing", "step"] m_leads_in) : Cal P w base ⟨K, mg, Lt, Tb⟩ "crash_in" 6 ["book"] m_crash_in := by
  have b_sorted := T.b_sorted
  have b_list := T.b_list
  obtain ⟨f_starts_in, fd_starts_in, G_starts_in, g_starts_in, k_starts_in, B_starts_in⟩ := C_starts_in
  obtain ⟨f_crash_steps, fd_crash_steps, G_crash_steps, g_crash_steps, k_crash_steps, B_crash_steps⟩ := C_crash_steps
  obtain ⟨f_steps_in, fd_steps_in, G_steps_in, g_steps_in, k_steps_in, B_steps_in⟩ := C_steps_in
  obtain ⟨f_leads_in, fd_leads_in, G_leads_in, g_leads_in, k_leads_in, B_leads_in⟩ := C_leads_in
  refine cal_of (k := 5) F sc_crash_in (fun _ _ _ _ _ _ us hl => match us, hl with | [_], _ => rfl) fun f cdv A outer s H E hr => ?_
  exact ss_cons (ss_ownD 1 (ss_dc (i := 1) (s0 := (.T [])) (own := [("standing", 3)]) (hu0 hr) rfl sc_crash_in.nd rfl rfl (sw_trueD rfl rfl rfl (by decide +kernel)) (si_list rfl (se_call G_starts_in (hr.mono (by decide)) g_starts_in k_starts_in B_starts_in (takes_of rfl rfl rfl rfl) rfl (sa_cons (se_var 0) (sa_nil)))) (blkOk_by (N := N_crash_in) (sc := defScope s_crash_in) (by decide +kernel)) (bs_name 3) (by decide) (fun _ _ _ _ _ => pg_name (i := 3) sc_crash_in.nd rfl (by first | exact Or.inl rfl | exact Or.inr rfl)) (fun _ _ _ _ _ => pts_nilS) (fun _ _ _ _ _ => se_var 3) (fun _ _ _ _ _ => se_tup (sa_cons (se_var 3) (sa_cons (se_new (sn_lst (sa_nil))) (sa_nil)))))) (ss_cons (ss_set 2 sc_crash_in.nd rfl (by first | exact Or.inl rfl | exact Or.inr rfl) (se_blt cr_sortedL cs_sorted rfl b_sorted bb_sorted (pa_consP (sp_of (se_new (sn_list rfl rfl rfl b_list (sp_var 1)))) (pa_nilP)))) (ss_cons (ss_while 1000 (passes_of rfl) (st_cmp (op_neD (hu64 hr)) os_ne.s (sp_var 2) (sp_of (se_new (sn_lst (sa_nil))))) (ss_cons (ss_for (passes_of rfl) rfl (si_list rfl (se_var 2)) (pg_name (i := 3) sc_crash_in.nd rfl (by first | exact Or.inl rfl | exact Or.inr rfl)) (bs_name 3) (ss_one (ss_for (passes_of rfl) rfl (si_list rfl (se_call G_crash_steps (hr.mono (by decide)) g_crash_steps k_crash_steps B_crash_steps (takes_of rfl rfl rfl rfl) rfl (sa_cons (se_var 0) (sa_cons (se_var 3) (sa_nil))))) (pg_name (i := 5) sc_crash_in.nd rfl (by first | exact Or.inl rfl | exact Or.inr rfl)) (bs_name 5) (ss_one (ss_ret (se_tup (sa_cons (se_ix rfl (hu1 hr) (sp_of (se_ix rfl (hu1 hr) (sp_var 1) (sp_var 3) (fun _ _ => rfl))) (sp_of (se_int)) (fun _ _ => rfl)) (sa_cons (se_bin op_addA os_add (sp_of (se_ix rfl (hu1 hr) (sp_of (se_ix rfl (hu1 hr) (sp_var 1) (sp_var 3) (fun _ _ => rfl))) (sp_of (se_int)) (fun _ _ => rfl))) (sp_of (se_new (sn_lst (sa_cons (se_tup (sa_cons (se_var 5) (sa_cons (se_non) (sa_nil)))) (sa_nil)))))) (sa_nil))))))))) (ss_cons (ss_own 4 (ps_set (i := 4) sc_crash_in.nd rfl (by first | exact Or.inl rfl | exact Or.inr rfl) (sn_lst (sa_nil)))) (ss_cons (ss_for (passes_of rfl) rfl (si_list rfl (se_var 2)) (pg_name (i := 3) sc_crash_in.nd rfl (by first | exact Or.inl rfl | exact Or.inr rfl)) (bs_name 3) (ss_one (ss_for (passes_of rfl) rfl (si_list rfl (se_call G_steps_in (hr.mono (by decide)) g_steps_in k_steps_in B_steps_in (takes_of rfl rfl rfl rfl) rfl (sa_cons (se_var 0) (sa_cons (se_var 3) (sa_nil))))) (pg_name (i := 5) sc_crash_in.nd rfl (by first | exact Or.inl rfl | exact Or.inr rfl)) (bs_name 5) (ss_one (ss_for (passes_of rfl) rfl (si_list rfl (se_call G_leads_in (hr.mono (by decide)) g_leads_in k_leads_in B_leads_in (takes_of rfl rfl rfl rfl) rfl (sa_cons (se_var 0) (sa_cons (se_var 3) (sa_cons (se_var 5) (sa_nil)))))) (pg_name (i := 6) sc_crash_in.nd rfl (by first | exact Or.inl rfl | exact Or.inr rfl)) (bs_name 6) (ss_one (ss_if (st_cmp (op_notInA (hu65 hr)) os_notIn.s (sp_var 6) (sp_var 1)) (ss_cons (ss_put (o := noE) 1 (hu1 hr) rfl (by first | exact Or.inl rfl | exact Or.inr (Or.inl rfl) | exact Or.inr (Or.inr rfl)) (by decide) (by decide) (se_var 6) (se_tup (sa_cons (se_ix rfl (hu1 hr) (sp_of (se_ix rfl (hu1 hr) (sp_var 1) (sp_var 3) (fun _ _ => rfl))) (sp_of (se_int)) (fun _ _ => rfl)) (sa_cons (se_bin op_addA os_add (sp_of (se_ix rfl (hu1 hr) (sp_of (se_ix rfl (hu1 hr) (sp_var 1) (sp_var 3) (fun _ _ => rfl))) (sp_of (se_int)) (fun _ _ => rfl))) (sp_of (se_new (sn_lst (sa_cons (se_tup (sa_cons (se_var 5) (sa_cons (se_var 6) (sa_nil)))) (sa_nil)))))) (sa_nil)))) rfl) (ss_one (ss_app (ps_expr (pe_bm PySem.F.plainAttrs_list PySem.F.slot_list_append PySem.F.type_list_append mt_append (pv 4) (pa_cons (se_var 6) pa_nil)))))) (ss_nil)))))))) (ss_one (ss_frz 4 (ss_set 2 sc_crash_in.nd rfl (by first | exact Or.inl rfl | exact Or.inr rfl) (se_var 4)))))))) (ss_one (ss_ret (se_non)))))
theorem sc_need_book : FnScope N_need_book ["thing"] (defScope s_need_book) := ⟨rfl, rfl, rfl, by decide +kernel, rfl, by decide +kernel, by decide +kernel⟩
def m_need_book : List D → G → R D := mDef 2 (mSeq (mAsg (mFn 1 m_book_fault (mCons (mVar 0) (mNil))) (bName 1)) (mSeq (mIfS (mTst (mBin fNotN (mPk 1) (mC .non))) (mStop) (mSkip)) (mRet (mVar 0))))
theorem ok_need_book {P : Program} {w : World} {K : PySem.W.Frag} {mg : Str → Option Value} {base : Heap} {Tb : List (Addr × Str)} (T : Tx mg) (F : At K mg "need_book" s_need_book) (C_book_fault : Cal P w base ⟨K, mg, Lt, Tb⟩ "book_fault" 6 ["thing"] m_book_fault) : Cal P w base ⟨K, mg, Lt, Tb⟩ "need_book" 7 ["thing"] m_need_book := by
  obtain ⟨f_book_fault, fd_book_fault, G_book_fault, g_book_fault, k_book_fault, B_book_fault⟩ := C_book_fault
  refine cal_of (k := 6) F sc_need_book (fun _ _ _ _ _ _ us hl => match us, hl with | [_], _ => rfl) fun f cdv A outer s H E hr => ?_
  exact ss_cons (ss_set 1 sc_need_book.nd rfl (by first | exact Or.inl rfl | exact Or.inr rfl) (se_call G_book_fault (hr.mono (by decide)) g_book_fault k_book_fault B_book_fault (takes_of rfl rfl rfl rfl) rfl (sa_cons (se_var 0) (sa_nil)))) (ss_cons (ss_if (st_cmp op_notN os_notN.s (sp_var 1) (sp_of (se_non))) (ss_one (ss_never)) (ss_nil)) (ss_one (ss_ret (se_var 0))))
theorem sc_crash_paper : FnScope N_crash_paper ["book"] (defScope s_crash_paper) := ⟨rfl, rfl, rfl, by decide +kernel, rfl, by decide +kernel, by decide +kernel⟩
def m_crash_paper : List D → G → R D := mDef 6 (mSeq (mAsg (mFn 1 m_crash_in (mCons (mVar 0) (mNil))) (bName 1)) (mSeq (mIfS (mTst (mBin fIsN (mPk 1) (mC .non))) (mRet (mC .non)) (mSkip)) (mSeq (mAsg (mVar 1) (bTup [2, 3])) (mRet (mTup (mCons (mC (.str "crash")) (mCons (mFn 3 m_exact_start (mCons (mVar 0) (mCons (mVar 2) (mCons (mVar 3) (mNil))))) (mCons (mBin fIx (mPk 2) (mC (.int 1))) (mCons (mBin fIx (mPk 2) (mC (.int 2))) (mCons (mBlt fTuple (mCons (mNew (mComp [4, 5] (mItA (mVar 3)) (bTup [4, 5]) (mYes) (mVar 4))) (mNil))) (mNil)))))))))))
theorem ok_crash_paper {P : Program} {w : World} {K : PySem.W.Frag} {mg : Str → Option Value} {base : Heap} {Tb : List (Addr × Str)} (T : Tx mg) (F : At K mg "crash_paper" s_crash_paper) (C_crash_in : Cal P w base ⟨K, mg, Lt, Tb⟩ "crash_in" 6 ["book"] m_crash_in) (C_exact_start : Cal P w base ⟨K, mg, Lt, Tb⟩ "exact_start" 2 ["book", "first", "pairs"] m_exact_start) : Cal P w base ⟨K, mg, Lt, Tb⟩ "crash_paper" 7 ["book"] m_crash_paper := by
  have b_tuple := T.b_tuple
  obtain ⟨t_CRASH, c_CRASH⟩ := T.c_CRASH
  obtain ⟨f_crash_in, fd_crash_in, G_crash_in, g_crash_in, k_crash_in, B_crash_in⟩ := C_crash_in
  obtain ⟨f_exact_start, fd_exact_start, G_exact_start, g_exact_start, k_exact_start, B_exact_start⟩ := C_exact_start
  refine cal_of (k := 6) F sc_crash_paper (fun _ _ _ _ _ _ us hl => match us, hl with | [_], _ => rfl) fun f cdv A outer s H E hr => ?_
  exact ss_cons (ss_set 1 sc_crash_paper.nd rfl (by first | exact Or.inl rfl | exact Or.inr rfl) (se_call G_crash_in (hr.mono (by decide)) g_crash_in k_crash_in B_crash_in (takes_of rfl rfl rfl rfl) rfl (sa_cons (se_var 0) (sa_nil)))) (ss_cons (ss_if (st_cmp op_isN os_isN.s (sp_var 1) (sp_of (se_non))) (ss_one (ss_ret (se_non))) (ss_nil)) (ss_cons (ss_setT [2, 3] rfl rfl (pgs_names_cons (i := 2) sc_crash_paper.nd rfl (by first | exact Or.inl rfl | exact Or.inr rfl) (pgs_names_cons (i := 3) sc_crash_paper.nd rfl (by first | exact Or.inl rfl | exact Or.inr rfl) (pgs_names_nil))) (se_var 1)) (ss_one (ss_ret (se_tup (sa_cons (se_gstr rfl c_CRASH) (sa_cons (se_call G_exact_start (hr.mono (by decide)) g_exact_start k_exact_start B_exact_start (takes_of rfl rfl rfl rfl) rfl (sa_cons (se_var 0) (sa_cons (se_var 2) (sa_cons (se_var 3) (sa_nil))))) (sa_cons (se_ix rfl (hu1 hr) (sp_var 2) (sp_of (se_int)) (fun _ _ => rfl)) (sa_cons (se_ix rfl (hu1 hr) (sp_var 2) (sp_of (se_int)) (fun _ _ => rfl)) (sa_cons (se_ty call_tupleA cs_tuple rfl b_tuple bb_tuple (pa_consP (sp_of (se_new (sn_comp (own := [("step", 4), ("later", 5)]) rfl sc_crash_paper.nd (si_any rfl (se_var 3)) (blkOk_by (N := N_crash_paper) (sc := defScope s_crash_paper) (by decide +kernel)) (bs_tup [4, 5]) (by decide) (fun _ _ _ _ _ => pg_tup rfl (pgs_names_cons (i := 4) sc_crash_paper.nd rfl (by first | exact Or.inl rfl | exact Or.inr rfl) (pgs_names_cons (i := 5) sc_crash_paper.nd rfl (by first | exact Or.inl rfl | exact Or.inr rfl) (pgs_names_nil)))) (fun _ _ _ _ _ => pts_nilS) (fun _ _ _ _ _ => se_var 4)))) (pa_nilP))) (sa_nil)))))))))))
theorem sc_check_crash : FnScope N_check_crash ["book", "standing", "row"] (defScope s_check_crash) := ⟨rfl, rfl, rfl, by decide +kernel, rfl, by decide +kernel, by decide +kernel⟩
def m_check_crash : List D → G → R D := mDef 6 (mSeq (mIfS (mOrT (mNotT (mTst (mFn 2 m_is_standing_in (mCons (mVar 0) (mCons (mFn 2 m_capped (mCons (mVar 0) (mCons (mVar 1) (mNil)))) (mNil)))))) (mNotT (mTst (mFn 2 m_is_start (mCons (mVar 0) (mCons (mFn 2 m_capped (mCons (mVar 0) (mCons (mVar 1) (mNil)))) (mNil))))))) (mStop) (mSkip)) (mSeq (mIfS (mTst (mBin fEq (mPk 2) (mTup (mNil)))) (mStop) (mSkip)) (mSeq (mFor (mEnT (mVar 2)) (bTup [3, 4]) (mSeq (mIfS (mNotT (mTst (mFn 3 m_is_step_in (mCons (mVar 0) (mCons (mFn 2 m_capped (mCons (mVar 0) (mCons (mVar 1) (mNil)))) (mCons (mVar 4) (mNil))))))) (mStop) (mSkip)) (mSeq (mAsg (mFn 2 m_moved (mCons (mVar 1) (mCons (mVar 4) (mNil)))) (bName 1)) (mIfS (mTst (mBin fNe (mBin fLt (mBin fIx (mPk 1) (mC (.int 0))) (mC (.int 0))) (mBin fEq (mPk 3) (mBin fSub (mBlt fLen (mCons (mPk 2) (mNil))) (mC (.int 1)))))) (mStop) (mSkip))))) (mSeq (mAsg (mFn 1 m_crash_in (mCons (mVar 0) (mNil))) (bName 5)) (mIfS (mOrT (mTst (mBin fIsN (mPk 5) (mC .non))) (mTst (mBin fNe (mBlt fLen (mCons (mPk 2) (mNil))) (mBlt fLen (mCons (mBin fIx (mPk 5) (mC (.int 1))) (mNil)))))) (mStop) (mSkip))))))
theorem ok_check_crash {P : Program} {w : World} {K : PySem.W.Frag} {mg : Str → Option Value} {base : Heap} {Tb : List (Addr × Str)} (T : Tx mg) (F : At K mg "check_crash" s_check_crash) (C_is_standing_in : Cal P w base ⟨K, mg, Lt, Tb⟩ "is_standing_in" 2 ["book", "thing"] m_is_standing_in) (C_capped : Cal P w base ⟨K, mg, Lt, Tb⟩ "capped" 2 ["book", "standing"] m_capped) (C_is_start : Cal P w base ⟨K, mg, Lt, Tb⟩ "is_start" 2 ["book", "standing"] m_is_start) (C_is_step_in : Cal P w base ⟨K, mg, Lt, Tb⟩ "is_step_in" 5 ["book", "standing", "step"] m_is_step_in) (C_moved : Cal P w base ⟨K, mg, Lt, Tb⟩ "moved" 1 ["standing", "step"] m_moved) (C_crash_in : Cal P w base ⟨K, mg, Lt, Tb⟩ "crash_in" 6 ["book"] m_crash_in) : Cal P w base ⟨K, mg, Lt, Tb⟩ "check_crash" 7 ["book", "standing", "row"] m_check_crash := by
  have b_enumerate := T.b_enumerate
  have b_len := T.b_len
  obtain ⟨f_is_standing_in, fd_is_standing_in, G_is_standing_in, g_is_standing_in, k_is_standing_in, B_is_standing_in⟩ := C_is_standing_in
  obtain ⟨f_capped, fd_capped, G_capped, g_capped, k_capped, B_capped⟩ := C_capped
  obtain ⟨f_is_start, fd_is_start, G_is_start, g_is_start, k_is_start, B_is_start⟩ := C_is_start
  obtain ⟨f_is_step_in, fd_is_step_in, G_is_step_in, g_is_step_in, k_is_step_in, B_is_step_in⟩ := C_is_step_in
  obtain ⟨f_moved, fd_moved, G_moved, g_moved, k_moved, B_moved⟩ := C_moved
  obtain ⟨f_crash_in, fd_crash_in, G_crash_in, g_crash_in, k_crash_in, B_crash_in⟩ := C_crash_in
  refine cal_of (k := 6) F sc_check_crash (fun _ _ _ _ _ _ us hl => match us, hl with | [_, _, _], _ => rfl) fun f cdv A outer s H E hr => ?_
  exact ss_cons (ss_if (PW.pt (st_or (st_not (st_val (se_call G_is_standing_in (hr.mono (by decide)) g_is_standing_in k_is_standing_in B_is_standing_in (takes_of rfl rfl rfl rfl) rfl (sa_cons (se_var 0) (sa_cons (se_call G_capped (hr.mono (by decide)) g_capped k_capped B_capped (takes_of rfl rfl rfl rfl) rfl (sa_cons (se_var 0) (sa_cons (se_var 1) (sa_nil)))) (sa_nil)))))) (st_or1 (st_not (st_val (se_call G_is_start (hr.mono (by decide)) g_is_start k_is_start B_is_start (takes_of rfl rfl rfl rfl) rfl (sa_cons (se_var 0) (sa_cons (se_call G_capped (hr.mono (by decide)) g_capped k_capped B_capped (takes_of rfl rfl rfl rfl) rfl (sa_cons (se_var 0) (sa_cons (se_var 1) (sa_nil)))) (sa_nil))))))))) (ss_one (ss_never)) (ss_nil)) (ss_cons (ss_if (st_cmp (op_eqD (hu64 hr)) os_eq.s (sp_var 2) (sp_of (se_tup (sa_nil)))) (ss_one (ss_never)) (ss_nil)) (ss_cons (ss_for (passes_of rfl) rfl (si_enT rfl b_enumerate (se_var 2)) (pg_tup rfl (pgs_names_cons (i := 3) sc_check_crash.nd rfl (by first | exact Or.inl rfl | exact Or.inr rfl) (pgs_names_cons (i := 4) sc_check_crash.nd rfl (by first | exact Or.inl rfl | exact Or.inr rfl) (pgs_names_nil)))) (bs_tup [3, 4]) (ss_cons (ss_if (st_not (st_val (se_call G_is_step_in (hr.mono (by decide)) g_is_step_in k_is_step_in B_is_step_in (takes_of rfl rfl rfl rfl) rfl (sa_cons (se_var 0) (sa_cons (se_call G_capped (hr.mono (by decide)) g_capped k_capped B_capped (takes_of rfl rfl rfl rfl) rfl (sa_cons (se_var 0) (sa_cons (se_var 1) (sa_nil)))) (sa_cons (se_var 4) (sa_nil))))))) (ss_one (ss_never)) (ss_nil)) (ss_cons (ss_set 1 sc_check_crash.nd rfl (by first | exact Or.inl rfl | exact Or.inr rfl) (se_call G_moved (hr.mono (by decide)) g_moved k_moved B_moved (takes_of rfl rfl rfl rfl) rfl (sa_cons (se_var 1) (sa_cons (se_var 4) (sa_nil))))) (ss_one (ss_if (st_cmp (op_neD (hu64 hr)) os_ne.s (sp_of (se_cmp (op_ltA (hu0 hr)) os_lt.s (sp_of (se_ix rfl (hu1 hr) (sp_var 1) (sp_of (se_int)) (fun _ _ => rfl))) (sp_of (se_int)))) (sp_of (se_cmp (op_eqD (hu64 hr)) os_eq.s (sp_var 3) (sp_of (se_bin op_sub os_sub (sp_of (se_blt call_lenA cs_len rfl b_len bb_len (pa_consP (sp_var 2) (pa_nilP)))) (sp_of (se_int))))))) (ss_one (ss_never)) (ss_nil)))))) (ss_cons (ss_set 5 sc_check_crash.nd rfl (by first | exact Or.inl rfl | exact Or.inr rfl) (se_call G_crash_in (hr.mono (by decide)) g_crash_in k_crash_in B_crash_in (takes_of rfl rfl rfl rfl) rfl (sa_cons (se_var 0) (sa_nil)))) (ss_one (ss_if (PW.pt (st_or (st_cmp op_isN os_isN.s (sp_var 5) (sp_of (se_non))) (st_or1 (st_cmp (op_neD (hu64 hr)) os_ne.s (sp_of (se_blt call_lenA cs_len rfl b_len bb_len (pa_consP (sp_var 2) (pa_nilP)))) (sp_of (se_blt call_lenA cs_len rfl b_len bb_len (pa_consP (sp_of (se_ix rfl (hu1 hr) (sp_var 5) (sp_of (se_int)) (fun _ _ => rfl))) (pa_nilP)))))))) (ss_one (ss_never)) (ss_nil))))))
theorem sc_is_clear : FnScope N_is_clear ["book"] (defScope s_is_clear) := ⟨rfl, rfl, rfl, by decide +kernel, rfl, by decide +kernel, by decide +kernel⟩
def m_is_clear : List D → G → R D := mDef 1 (mRet (mBin fIsN (mFn 1 m_crash_in (mCons (mFn 1 m_need_book (mCons (mVar 0) (mNil))) (mNil))) (mC .non)))
theorem ok_is_clear {P : Program} {w : World} {K : PySem.W.Frag} {mg : Str → Option Value} {base : Heap} {Tb : List (Addr × Str)} (T : Tx mg) (F : At K mg "is_clear" s_is_clear) (C_crash_in : Cal P w base ⟨K, mg, Lt, Tb⟩ "crash_in" 6 ["book"] m_crash_in) (C_need_book : Cal P w base ⟨K, mg, Lt, Tb⟩ "need_book" 7 ["thing"] m_need_book) : Cal P w base ⟨K, mg, Lt, Tb⟩ "is_clear" 8 ["book"] m_is_clear := by
  obtain ⟨f_crash_in, fd_crash_in, G_crash_in, g_crash_in, k_crash_in, B_crash_in⟩ := C_crash_in
  obtain ⟨f_need_book, fd_need_book, G_need_book, g_need_book, k_need_book, B_need_book⟩ := C_need_book
  refine cal_of (k := 7) F sc_is_clear (fun _ _ _ _ _ _ us hl => match us, hl with | [_], _ => rfl) fun f cdv A outer s H E hr => ?_
  exact ss_one (ss_ret (se_cmp op_isN os_isN.s (sp_of (se_call G_crash_in (hr.mono (by decide)) g_crash_in k_crash_in B_crash_in (takes_of rfl rfl rfl rfl) rfl (sa_cons (se_call G_need_book (hr.mono (by decide)) g_need_book k_need_book B_need_book (takes_of rfl rfl rfl rfl) rfl (sa_cons (se_var 0) (sa_nil))) (sa_nil)))) (sp_of (se_non))))
theorem sc_fewest_steps : FnScope N_fewest_steps ["book"] (defScope s_fewest_steps) := ⟨rfl, rfl, rfl, by decide +kernel, rfl, by decide +kernel, by decide +kernel⟩
def m_fewest_steps : List D → G → R D := mDef 2 (mSeq (mAsg (mFn 1 m_crash_in (mCons (mFn 1 m_need_book (mCons (mVar 0) (mNil))) (mNil))) (bName 1)) (mRet (mIf (mTst (mBin fIsN (mPk 1) (mC .non))) (mC .non) (mBlt fLen (mCons (mBin fIx (mPk 1) (mC (.int 1))) (mNil))))))
theorem ok_fewest_steps {P : Program} {w : World} {K : PySem.W.Frag} {mg : Str → Option Value} {base : Heap} {Tb : List (Addr × Str)} (T : Tx mg) (F : At K mg "fewest_steps" s_fewest_steps) (C_crash_in : Cal P w base ⟨K, mg, Lt, Tb⟩ "crash_in" 6 ["book"] m_crash_in) (C_need_book : Cal P w base ⟨K, mg, Lt, Tb⟩ "need_book" 7 ["thing"] m_need_book) : Cal P w base ⟨K, mg, Lt, Tb⟩ "fewest_steps" 8 ["book"] m_fewest_steps := by
  have b_len := T.b_len
  obtain ⟨f_crash_in, fd_crash_in, G_crash_in, g_crash_in, k_crash_in, B_crash_in⟩ := C_crash_in
  obtain ⟨f_need_book, fd_need_book, G_need_book, g_need_book, k_need_book, B_need_book⟩ := C_need_book
  refine cal_of (k := 7) F sc_fewest_steps (fun _ _ _ _ _ _ us hl => match us, hl with | [_], _ => rfl) fun f cdv A outer s H E hr => ?_
  exact ss_cons (ss_set 1 sc_fewest_steps.nd rfl (by first | exact Or.inl rfl | exact Or.inr rfl) (se_call G_crash_in (hr.mono (by decide)) g_crash_in k_crash_in B_crash_in (takes_of rfl rfl rfl rfl) rfl (sa_cons (se_call G_need_book (hr.mono (by decide)) g_need_book k_need_book B_need_book (takes_of rfl rfl rfl rfl) rfl (sa_cons (se_var 0) (sa_nil))) (sa_nil)))) (ss_one (ss_ret (se_if (st_cmp op_isN os_isN.s (sp_var 1) (sp_of (se_non))) (se_non) (se_blt call_lenA cs_len rfl b_len bb_len (pa_consP (sp_of (se_ix rfl (hu1 hr) (sp_var 1) (sp_of (se_int)) (fun _ _ => rfl))) (pa_nilP))))))
theorem sc_clear_paper : FnScope N_clear_paper ["book"] (defScope s_clear_paper) := ⟨rfl, rfl, rfl, by decide +kernel, rfl, by decide +kernel, by decide +kernel⟩
def m_clear_paper : List D → G → R D := mDef 2 (mSeq (mAsg (mFn 1 m_crash_paper (mCons (mFn 1 m_need_book (mCons (mVar 0) (mNil))) (mNil))) (bName 1)) (mRet (mIf (mTst (mBin fNotN (mPk 1) (mC .non))) (mVar 1) (mTup (mCons (mC (.str "clear")) (mCons (mBlt fTuple (mCons (mBlt fSorted (mCons (mNew (mListN (mFn 1 m_coming_in (mCons (mVar 0) (mNil))))) (mNil))) (mNil))) (mNil)))))))
theorem ok_clear_paper {P : Program} {w : World} {K : PySem.W.Frag} {mg : Str → Option Value} {base : Heap} {Tb : List (Addr × Str)} (T : Tx mg) (F : At K mg "clear_paper" s_clear_paper) (C_crash_paper : Cal P w base ⟨K, mg, Lt, Tb⟩ "crash_paper" 7 ["book"] m_crash_paper) (C_need_book : Cal P w base ⟨K, mg, Lt, Tb⟩ "need_book" 7 ["thing"] m_need_book) (C_coming_in : Cal P w base ⟨K, mg, Lt, Tb⟩ "coming_in" 5 ["book"] m_coming_in) : Cal P w base ⟨K, mg, Lt, Tb⟩ "clear_paper" 8 ["book"] m_clear_paper := by
  have b_tuple := T.b_tuple
  have b_sorted := T.b_sorted
  have b_list := T.b_list
  obtain ⟨t_CLEAR, c_CLEAR⟩ := T.c_CLEAR
  obtain ⟨f_crash_paper, fd_crash_paper, G_crash_paper, g_crash_paper, k_crash_paper, B_crash_paper⟩ := C_crash_paper
  obtain ⟨f_need_book, fd_need_book, G_need_book, g_need_book, k_need_book, B_need_book⟩ := C_need_book
  obtain ⟨f_coming_in, fd_coming_in, G_coming_in, g_coming_in, k_coming_in, B_coming_in⟩ := C_coming_in
  refine cal_of (k := 7) F sc_clear_paper (fun _ _ _ _ _ _ us hl => match us, hl with | [_], _ => rfl) fun f cdv A outer s H E hr => ?_
  exact ss_cons (ss_set 1 sc_clear_paper.nd rfl (by first | exact Or.inl rfl | exact Or.inr rfl) (se_call G_crash_paper (hr.mono (by decide)) g_crash_paper k_crash_paper B_crash_paper (takes_of rfl rfl rfl rfl) rfl (sa_cons (se_call G_need_book (hr.mono (by decide)) g_need_book k_need_book B_need_book (takes_of rfl rfl rfl rfl) rfl (sa_cons (se_var 0) (sa_nil))) (sa_nil)))) (ss_one (ss_ret (se_if (st_cmp op_notN os_notN.s (sp_var 1) (sp_of (se_non))) (se_var 1) (se_tup (sa_cons (se_gstr rfl c_CLEAR) (sa_cons (se_ty call_tupleA cs_tuple rfl b_tuple bb_tuple (pa_consP (sp_of (se_blt cr_sortedL cs_sorted rfl b_sorted bb_sorted (pa_consP (sp_of (se_new (sn_list rfl rfl rfl b_list (sp_of (se_call G_coming_in (hr.mono (by decide)) g_coming_in k_coming_in B_coming_in (takes_of rfl rfl rfl rfl) rfl (sa_cons (se_var 0) (sa_nil))))))) (pa_nilP)))) (pa_nilP))) (sa_nil)))))))
theorem sc_check_clear : FnScope N_check_clear ["book", "paper"] (defScope s_check_clear) := ⟨rfl, rfl, rfl, by decide +kernel, rfl, by decide +kernel, by decide +kernel⟩
def m_check_clear : List D → G → R D := mDef 2 (mSeq (mExp (mFn 1 m_need_book (mCons (mVar 0) (mNil)))) (mSeq (mExp (mFn 1 m_need_form (mCons (mVar 1) (mNil)))) (mSeq (mIfS (mTst (mBin fEq (mBin fIx (mPk 1) (mC (.int 0))) (mC (.str "crash")))) (mExp (mFn 3 m_check_crash (mCons (mVar 0) (mCons (mSl (mPk 1) (mPart (mC (.int 1))) (mPart (mC (.int 4)))) (mCons (mBin fIx (mPk 1) (mC (.int 4))) (mNil)))))) (mIfS (mNotT (mTst (mFn 2 m_is_closed (mCons (mVar 0) (mCons (mBin fIx (mPk 1) (mC (.int 1))) (mNil)))))) (mStop) (mSkip))) (mRet (mBin fIx (mPk 1) (mC (.int 0)))))))
theorem ok_check_clear {P : Program} {w : World} {K : PySem.W.Frag} {mg : Str → Option Value} {base : Heap} {Tb : List (Addr × Str)} (T : Tx mg) (F : At K mg "check_clear" s_check_clear) (C_need_book : Cal P w base ⟨K, mg, Lt, Tb⟩ "need_book" 7 ["thing"] m_need_book) (C_need_form : Cal P w base ⟨K, mg, Lt, Tb⟩ "need_form" 2 ["paper"] m_need_form) (C_check_crash : Cal P w base ⟨K, mg, Lt, Tb⟩ "check_crash" 7 ["book", "standing", "row"] m_check_crash) (C_is_closed : Cal P w base ⟨K, mg, Lt, Tb⟩ "is_closed" 5 ["book", "table"] m_is_closed) : Cal P w base ⟨K, mg, Lt, Tb⟩ "check_clear" 8 ["book", "paper"] m_check_clear := by
  obtain ⟨t_CRASH, c_CRASH⟩ := T.c_CRASH
  obtain ⟨f_need_book, fd_need_book, G_need_book, g_need_book, k_need_book, B_need_book⟩ := C_need_book
  obtain ⟨f_need_form, fd_need_form, G_need_form, g_need_form, k_need_form, B_need_form⟩ := C_need_form
  obtain ⟨f_check_crash, fd_check_crash, G_check_crash, g_check_crash, k_check_crash, B_check_crash⟩ := C_check_crash
  obtain ⟨f_is_closed, fd_is_closed, G_is_closed, g_is_closed, k_is_closed, B_is_closed⟩ := C_is_closed
  refine cal_of (k := 7) F sc_check_clear (fun _ _ _ _ _ _ us hl => match us, hl with | [_, _], _ => rfl) fun f cdv A outer s H E hr => ?_
  exact ss_cons (ss_expr (se_call G_need_book (hr.mono (by decide)) g_need_book k_need_book B_need_book (takes_of rfl rfl rfl rfl) rfl (sa_cons (se_var 0) (sa_nil)))) (ss_cons (ss_expr (se_call G_need_form (hr.mono (by decide)) g_need_form k_need_form B_need_form (takes_of rfl rfl rfl rfl) rfl (sa_cons (se_var 1) (sa_nil)))) (ss_cons (ss_if (st_cmp (op_eqD (hu64 hr)) os_eq.s (sp_of (se_ix rfl (hu1 hr) (sp_var 1) (sp_of (se_int)) (fun _ _ => rfl))) (sp_of (se_gstr rfl c_CRASH))) (ss_one (ss_expr (se_call G_check_crash (hr.mono (by decide)) g_check_crash k_check_crash B_check_crash (takes_of rfl rfl rfl rfl) rfl (sa_cons (se_var 0) (sa_cons (se_slice rfl (sp_var 1) (so_some (se_int)) (so_some (se_int))) (sa_cons (se_ix rfl (hu1 hr) (sp_var 1) (sp_of (se_int)) (fun _ _ => rfl)) (sa_nil))))))) (ss_one (ss_if (st_not (st_val (se_call G_is_closed (hr.mono (by decide)) g_is_closed k_is_closed B_is_closed (takes_of rfl rfl rfl rfl) rfl (sa_cons (se_var 0) (sa_cons (se_ix rfl (hu1 hr) (sp_var 1) (sp_of (se_int)) (fun _ _ => rfl)) (sa_nil)))))) (ss_one (ss_never)) (ss_nil)))) (ss_one (ss_ret (se_ix rfl (hu1 hr) (sp_var 1) (sp_of (se_int)) (fun _ _ => rfl))))))
theorem sc_law : FnScope N_law ["_law_script"] (defScope s_law) := ⟨rfl, rfl, rfl, by decide +kernel, rfl, by decide +kernel, by decide +kernel⟩
def m_law : List D → G → R D := mDef 7 (mSeq (mAsg (mFn 1 m__law_begun (mCons (mVar 0) (mNil))) (bName 1)) (mSeq (mAsg (mFn 0 m__law_books mNil) (bName 2)) (mSeq (mAsg (mFn 2 m__law_draw (mCons (mVar 1) (mCons (mBlt fLen (mCons (mPk 2) (mNil))) (mNil)))) (bName 3)) (mSeq (mFor (mItL (mBin fAdd (mSl (mPk 2) (mPart (mVar 3)) (mNo)) (mSl (mPk 2) (mNo) (mPart (mVar 3))))) (bTup [4, 5]) (mSeq (mIfS (mOrT (mTst (mBin fNe (mFn 1 m_is_clear (mCons (mVar 4) (mNil))) (mBin fIsN (mPk 5) (mC .non)))) (mTst (mBin fNe (mFn 1 m_fewest_steps (mCons (mVar 4) (mNil))) (mPk 5)))) (mRet (mC (.bl false))) (mSkip)) (mSeq (mAsg (mFn 1 m_clear_paper (mCons (mVar 4) (mNil))) (bName 6)) (mIfS (mOrT (mTst (mBin fNe (mFn 2 m_check_clear (mCons (mVar 4) (mCons (mVar 6) (mNil)))) (mBin fIx (mNew (mItems (mCons (mC (.str "crash")) (mCons (mC (.str "clear")) (mNil))))) (mBlt fInt1 (mCons (mBin fIsN (mPk 5) (mC .non)) (mNil)))))) (mTst (mBin fNe (mBin fIx (mPk 6) (mC (.int 0))) (mFn 2 m_check_clear (mCons (mVar 4) (mCons (mVar 6) (mNil))))))) (mRet (mC (.bl false))) (mSkip))))) (mSeq (mAsg (mBin fIx (mBin fIx (mPk 2) (mC (.int 1))) (mC (.int 0))) (bName 4)) (mRet (mBin fEq (mFn 2 m_check_clear (mCons (mVar 4) (mCons (mTup (mCons (mC (.str "crash")) (mCons (mC (.int 1)) (mCons (mC (.int 0)) (mCons (mC (.int 0)) (mCons (mTup (mCons (mTup (mCons (mC (.int 1)) (mCons (mC (.int 0)) (mNil)))) (mCons (mTup (mCons (mC (.int 1)) (mCons (mC (.int 0)) (mNil)))) (mNil)))) (mNil))))))) (mNil)))) (mC (.str "crash")))))))))
theorem ok_law {P : Program} {w : World} {K : PySem.W.Frag} {mg : Str → Option Value} {base : Heap} {Tb : List (Addr × Str)} (T : Tx mg) {f : Addr} {fd : FuncData} (F : L2.Fun K "law" "law" s_law f fd) (C__law_begun : Cal P w base ⟨K, mg, Lt, Tb⟩ "_law_begun" 1 ["_law_script"] m__law_begun) (C__law_books : Cal P w base ⟨K, mg, Lt, Tb⟩ "_law_books" 1 [] m__law_books) (C__law_draw : Cal P w base ⟨K, mg, Lt, Tb⟩ "_law_draw" 1 ["_law_m", "_law_limit"] m__law_draw) (C_is_clear : Cal P w base ⟨K, mg, Lt, Tb⟩ "is_clear" 8 ["book"] m_is_clear) (C_fewest_steps : Cal P w base ⟨K, mg, Lt, Tb⟩ "fewest_steps" 8 ["book"] m_fewest_steps) (C_clear_paper : Cal P w base ⟨K, mg, Lt, Tb⟩ "clear_paper" 8 ["book"] m_clear_paper) (C_check_clear : Cal P w base ⟨K, mg, Lt, Tb⟩ "check_clear" 8 ["book", "paper"] m_check_clear) : FnOk P w K mg base (L2.CX P w) 9 f fd ["_law_script"] (spOf ⟨K, mg, Lt, Tb⟩ 1 m_law) := by
  have b_len := T.b_len
  have b_int := T.b_int
  obtain ⟨f__law_begun, fd__law_begun, G__law_begun, g__law_begun, k__law_begun, B__law_begun⟩ := C__law_begun
  obtain ⟨f__law_books, fd__law_books, G__law_books, g__law_books, k__law_books, B__law_books⟩ := C__law_books
  obtain ⟨f__law_draw, fd__law_draw, G__law_draw, g__law_draw, k__law_draw, B__law_draw⟩ := C__law_draw
  obtain ⟨f_is_clear, fd_is_clear, G_is_clear, g_is_clear, k_is_clear, B_is_clear⟩ := C_is_clear
  obtain ⟨f_fewest_steps, fd_fewest_steps, G_fewest_steps, g_fewest_steps, k_fewest_steps, B_fewest_steps⟩ := C_fewest_steps
  obtain ⟨f_clear_paper, fd_clear_paper, G_clear_paper, g_clear_paper, k_clear_paper, B_clear_paper⟩ := C_clear_paper
  obtain ⟨f_check_clear, fd_check_clear, G_check_clear, g_check_clear, k_check_clear, B_check_clear⟩ := C_check_clear
  refine def_ok (k := 8) F sc_law fun cdv A outer s H E hr => ?_
  exact ss_cons (ss_set 1 sc_law.nd rfl (by first | exact Or.inl rfl | exact Or.inr rfl) (se_call G__law_begun (hr.mono (by decide)) g__law_begun k__law_begun B__law_begun (takes_of rfl rfl rfl rfl) rfl (sa_cons (se_var 0) (sa_nil)))) (ss_cons (ss_set 2 sc_law.nd rfl (by first | exact Or.inl rfl | exact Or.inr rfl) (se_call0 G__law_books (hr.mono (by decide)) g__law_books k__law_books B__law_books (takes_of rfl rfl rfl rfl) rfl)) (ss_cons (ss_set 3 sc_law.nd rfl (by first | exact Or.inl rfl | exact Or.inr rfl) (se_call G__law_draw (hr.mono (by decide)) g__law_draw k__law_draw B__law_draw (takes_of rfl rfl rfl rfl) rfl (sa_cons (se_var 1) (sa_cons (se_blt call_lenA cs_len rfl b_len bb_len (pa_consP (sp_var 2) (pa_nilP))) (sa_nil))))) (ss_cons (ss_for (passes_of rfl) rfl (si_list rfl (se_bin op_addA os_add (sp_of (se_slice rfl (sp_var 2) (so_some (se_var 3)) (so_none))) (sp_of (se_slice rfl (sp_var 2) (so_none) (so_some (se_var 3)))))) (pg_tup rfl (pgs_names_cons (i := 4) sc_law.nd rfl (by first | exact Or.inl rfl | exact Or.inr rfl) (pgs_names_cons (i := 5) sc_law.nd rfl (by first | exact Or.inl rfl | exact Or.inr rfl) (pgs_names_nil)))) (bs_tup [4, 5]) (ss_cons (ss_if (PW.pt (st_or (st_cmp (op_neD (hu64 hr)) os_ne.s (sp_of (se_call G_is_clear (hr.mono (by decide)) g_is_clear k_is_clear B_is_clear (takes_of rfl rfl rfl rfl) rfl (sa_cons (se_var 4) (sa_nil)))) (sp_of (se_cmp op_isN os_isN.s (sp_var 5) (sp_of (se_non))))) (st_or1 (st_cmp (op_neD (hu64 hr)) os_ne.s (sp_of (se_call G_fewest_steps (hr.mono (by decide)) g_fewest_steps k_fewest_steps B_fewest_steps (takes_of rfl rfl rfl rfl) rfl (sa_cons (se_var 4) (sa_nil)))) (sp_var 5))))) (ss_one (ss_ret (se_bl))) (ss_nil)) (ss_cons (ss_set 6 sc_law.nd rfl (by first | exact Or.inl rfl | exact Or.inr rfl) (se_call G_clear_paper (hr.mono (by decide)) g_clear_paper k_clear_paper B_clear_paper (takes_of rfl rfl rfl rfl) rfl (sa_cons (se_var 4) (sa_nil)))) (ss_one (ss_if (PW.pt (st_or (st_cmp (op_neD (hu64 hr)) os_ne.s (sp_of (se_call G_check_clear (hr.mono (by decide)) g_check_clear k_check_clear B_check_clear (takes_of rfl rfl rfl rfl) rfl (sa_cons (se_var 4) (sa_cons (se_var 6) (sa_nil))))) (sp_of (se_ix rfl (hu1 hr) (sp_of (se_new (sn_lst (sa_cons (se_str) (sa_cons (se_str) (sa_nil)))))) (sp_of (se_ty call_int1 cs_int1 rfl b_int bb_int (pa_consP (sp_of (se_cmp op_isN os_isN.s (sp_var 5) (sp_of (se_non)))) (pa_nilP)))) (fun _ _ => rfl)))) (st_or1 (st_cmp (op_neD (hu64 hr)) os_ne.s (sp_of (se_ix rfl (hu1 hr) (sp_var 6) (sp_of (se_int)) (fun _ _ => rfl))) (sp_of (se_call G_check_clear (hr.mono (by decide)) g_check_clear k_check_clear B_check_clear (takes_of rfl rfl rfl rfl) rfl (sa_cons (se_var 4) (sa_cons (se_var 6) (sa_nil))))))))) (ss_one (ss_ret (se_bl))) (ss_nil)))))) (ss_cons (ss_set 4 sc_law.nd rfl (by first | exact Or.inl rfl | exact Or.inr rfl) (se_ix rfl (hu1 hr) (sp_of (se_ix rfl (hu1 hr) (sp_var 2) (sp_of (se_int)) (fun _ _ => rfl))) (sp_of (se_int)) (fun _ _ => rfl))) (ss_one (ss_ret (se_cmp (op_eqD (hu64 hr)) os_eq.s (sp_of (se_call G_check_clear (hr.mono (by decide)) g_check_clear k_check_clear B_check_clear (takes_of rfl rfl rfl rfl) rfl (sa_cons (se_var 4) (sa_cons (se_tup (sa_cons (se_str) (sa_cons (se_int) (sa_cons (se_int) (sa_cons (se_int) (sa_cons (se_tup (sa_cons (se_tup (sa_cons (se_int) (sa_cons (se_int) (sa_nil)))) (sa_cons (se_tup (sa_cons (se_int) (sa_cons (se_int) (sa_nil)))) (sa_nil)))) (sa_nil))))))) (sa_nil))))) (sp_of (se_str)))))))))
theorem fr_is_whole : FrF m_is_whole := fr_def (by with_reducible repeat' first | exact fr_var | exact fr_pk | exact fr_c | exact fr_nil | exact fr_no | exact fr_yes | exact fr_skip | exact fr_stop | exact fr_retN | exact fr_pop | exact fr_d0 | apply fr_bin | apply fr_tst | apply fr_chain | apply fr_andT | apply fr_orT | apply fr_notT | apply fr_if | apply fr_andV | apply fr_orV | apply fr_notV | apply fr_cons | apply fr_tup | apply fr_lst | apply fr_part | apply fr_sl | apply fr_blt | apply fr_isi | apply fr_fn | apply fr_itL | apply fr_itT | apply fr_itA | apply fr_rg1 | apply fr_rg2 | apply fr_lstI | apply fr_tupI | apply fr_enT | apply fr_enL | apply fr_zip | apply fr_new | apply fr_comp | apply fr_comp2 | apply fr_items | apply fr_listN | apply fr_neg | apply fr_seq | apply fr_ret | apply fr_exp | apply fr_ifS | apply fr_asg | apply fr_par | apply fr_setO | apply fr_frz | apply fr_app | apply fr_ext | apply fr_for | apply fr_while | apply fr_aug | apply fr_callV | apply fr_lamcall | apply fr_newD | apply fr_setD | apply fr_dc | apply fr_put)
theorem fr_is_tuple_of : FrF m_is_tuple_of := fr_def (by with_reducible repeat' first | exact fr_var | exact fr_pk | exact fr_c | exact fr_nil | exact fr_no | exact fr_yes | exact fr_skip | exact fr_stop | exact fr_retN | exact fr_pop | exact fr_d0 | apply fr_bin | apply fr_tst | apply fr_chain | apply fr_andT | apply fr_orT | apply fr_notT | apply fr_if | apply fr_andV | apply fr_orV | apply fr_notV | apply fr_cons | apply fr_tup | apply fr_lst | apply fr_part | apply fr_sl | apply fr_blt | apply fr_isi | apply fr_fn | apply fr_itL | apply fr_itT | apply fr_itA | apply fr_rg1 | apply fr_rg2 | apply fr_lstI | apply fr_tupI | apply fr_enT | apply fr_enL | apply fr_zip | apply fr_new | apply fr_comp | apply fr_comp2 | apply fr_items | apply fr_listN | apply fr_neg | apply fr_seq | apply fr_ret | apply fr_exp | apply fr_ifS | apply fr_asg | apply fr_par | apply fr_setO | apply fr_frz | apply fr_app | apply fr_ext | apply fr_for | apply fr_while | apply fr_aug | apply fr_callV | apply fr_lamcall | apply fr_newD | apply fr_setD | apply fr_dc | apply fr_put)
theorem fr_follows_in : FrF m_follows_in := fr_def (by with_reducible repeat' first | exact fr_var | exact fr_pk | exact fr_c | exact fr_nil | exact fr_no | exact fr_yes | exact fr_skip | exact fr_stop | exact fr_retN | exact fr_pop | exact fr_d0 | apply fr_bin | apply fr_tst | apply fr_chain | apply fr_andT | apply fr_orT | apply fr_notT | apply fr_if | apply fr_andV | apply fr_orV | apply fr_notV | apply fr_cons | apply fr_tup | apply fr_lst | apply fr_part | apply fr_sl | apply fr_blt | apply fr_isi | apply fr_fn | apply fr_itL | apply fr_itT | apply fr_itA | apply fr_rg1 | apply fr_rg2 | apply fr_lstI | apply fr_tupI | apply fr_enT | apply fr_enL | apply fr_zip | apply fr_new | apply fr_comp | apply fr_comp2 | apply fr_items | apply fr_listN | apply fr_neg | apply fr_seq | apply fr_ret | apply fr_exp | apply fr_ifS | apply fr_asg | apply fr_par | apply fr_setO | apply fr_frz | apply fr_app | apply fr_ext | apply fr_for | apply fr_while | apply fr_aug | apply fr_callV | apply fr_lamcall | apply fr_newD | apply fr_setD | apply fr_dc | apply fr_put)
theorem fr_far_in : FrF m_far_in := fr_def (by with_reducible repeat' first | exact fr_var | exact fr_pk | exact fr_c | exact fr_nil | exact fr_no | exact fr_yes | exact fr_skip | exact fr_stop | exact fr_retN | exact fr_pop | exact fr_d0 | apply fr_bin | apply fr_tst | apply fr_chain | apply fr_andT | apply fr_orT | apply fr_notT | apply fr_if | apply fr_andV | apply fr_orV | apply fr_notV | apply fr_cons | apply fr_tup | apply fr_lst | apply fr_part | apply fr_sl | apply fr_blt | apply fr_isi | apply fr_fn | apply fr_itL | apply fr_itT | apply fr_itA | apply fr_rg1 | apply fr_rg2 | apply fr_lstI | apply fr_tupI | apply fr_enT | apply fr_enL | apply fr_zip | apply fr_new | apply fr_comp | apply fr_comp2 | apply fr_items | apply fr_listN | apply fr_neg | apply fr_seq | apply fr_ret | apply fr_exp | apply fr_ifS | apply fr_asg | apply fr_par | apply fr_setO | apply fr_frz | apply fr_app | apply fr_ext | apply fr_for | apply fr_while | apply fr_aug | apply fr_callV | apply fr_lamcall | apply fr_newD | apply fr_setD | apply fr_dc | apply fr_put)
theorem fr_aspect_in : FrF m_aspect_in := fr_def (by with_reducible repeat' first | exact fr_var | exact fr_pk | exact fr_c | exact fr_nil | exact fr_no | exact fr_yes | exact fr_skip | exact fr_stop | exact fr_retN | exact fr_pop | exact fr_d0 | apply fr_bin | apply fr_tst | apply fr_chain | apply fr_andT | apply fr_orT | apply fr_notT | apply fr_if | apply fr_andV | apply fr_orV | apply fr_notV | apply fr_cons | apply fr_tup | apply fr_lst | apply fr_part | apply fr_sl | apply fr_blt | apply fr_isi | apply fr_fn | apply fr_itL | apply fr_itT | apply fr_itA | apply fr_rg1 | apply fr_rg2 | apply fr_lstI | apply fr_tupI | apply fr_enT | apply fr_enL | apply fr_zip | apply fr_new | apply fr_comp | apply fr_comp2 | apply fr_items | apply fr_listN | apply fr_neg | apply fr_seq | apply fr_ret | apply fr_exp | apply fr_ifS | apply fr_asg | apply fr_par | apply fr_setO | apply fr_frz | apply fr_app | apply fr_ext | apply fr_for | apply fr_while | apply fr_aug | apply fr_callV | apply fr_lamcall | apply fr_newD | apply fr_setD | apply fr_dc | apply fr_put)
theorem fr_standings_to : FrF m_standings_to := fr_def (by with_reducible repeat' first | exact fr_var | exact fr_pk | exact fr_c | exact fr_nil | exact fr_no | exact fr_yes | exact fr_skip | exact fr_stop | exact fr_retN | exact fr_pop | exact fr_d0 | apply fr_bin | apply fr_tst | apply fr_chain | apply fr_andT | apply fr_orT | apply fr_notT | apply fr_if | apply fr_andV | apply fr_orV | apply fr_notV | apply fr_cons | apply fr_tup | apply fr_lst | apply fr_part | apply fr_sl | apply fr_blt | apply fr_isi | apply fr_fn | apply fr_itL | apply fr_itT | apply fr_itA | apply fr_rg1 | apply fr_rg2 | apply fr_lstI | apply fr_tupI | apply fr_enT | apply fr_enL | apply fr_zip | apply fr_new | apply fr_comp | apply fr_comp2 | apply fr_items | apply fr_listN | apply fr_neg | apply fr_seq | apply fr_ret | apply fr_exp | apply fr_ifS | apply fr_asg | apply fr_par | apply fr_setO | apply fr_frz | apply fr_app | apply fr_ext | apply fr_for | apply fr_while | apply fr_aug | apply fr_callV | apply fr_lamcall | apply fr_newD | apply fr_setD | apply fr_dc | apply fr_put)
theorem fr_leads_by : FrF m_leads_by := fr_def (by with_reducible repeat' first | exact fr_var | exact fr_pk | exact fr_c | exact fr_nil | exact fr_no | exact fr_yes | exact fr_skip | exact fr_stop | exact fr_retN | exact fr_pop | exact fr_d0 | apply fr_bin | apply fr_tst | apply fr_chain | apply fr_andT | apply fr_orT | apply fr_notT | apply fr_if | apply fr_andV | apply fr_orV | apply fr_notV | apply fr_cons | apply fr_tup | apply fr_lst | apply fr_part | apply fr_sl | apply fr_blt | apply fr_isi | apply fr_fn | apply fr_itL | apply fr_itT | apply fr_itA | apply fr_rg1 | apply fr_rg2 | apply fr_lstI | apply fr_tupI | apply fr_enT | apply fr_enL | apply fr_zip | apply fr_new | apply fr_comp | apply fr_comp2 | apply fr_items | apply fr_listN | apply fr_neg | apply fr_seq | apply fr_ret | apply fr_exp | apply fr_ifS | apply fr_asg | apply fr_par | apply fr_setO | apply fr_frz | apply fr_app | apply fr_ext | apply fr_for | apply fr_while | apply fr_aug | apply fr_callV | apply fr_lamcall | apply fr_newD | apply fr_setD | apply fr_dc | apply fr_put)
theorem fr_is_start_by : FrF m_is_start_by := fr_def (by with_reducible repeat' first | exact fr_var | exact fr_pk | exact fr_c | exact fr_nil | exact fr_no | exact fr_yes | exact fr_skip | exact fr_stop | exact fr_retN | exact fr_pop | exact fr_d0 | apply fr_bin | apply fr_tst | apply fr_chain | apply fr_andT | apply fr_orT | apply fr_notT | apply fr_if | apply fr_andV | apply fr_orV | apply fr_notV | apply fr_cons | apply fr_tup | apply fr_lst | apply fr_part | apply fr_sl | apply fr_blt | apply fr_isi | apply fr_fn | apply fr_itL | apply fr_itT | apply fr_itA | apply fr_rg1 | apply fr_rg2 | apply fr_lstI | apply fr_tupI | apply fr_enT | apply fr_enL | apply fr_zip | apply fr_new | apply fr_comp | apply fr_comp2 | apply fr_items | apply fr_listN | apply fr_neg | apply fr_seq | apply fr_ret | apply fr_exp | apply fr_ifS | apply fr_asg | apply fr_par | apply fr_setO | apply fr_frz | apply fr_app | apply fr_ext | apply fr_for | apply fr_while | apply fr_aug | apply fr_callV | apply fr_lamcall | apply fr_newD | apply fr_setD | apply fr_dc | apply fr_put)
theorem fr_moved : FrF m_moved := fr_def (by with_reducible repeat' first | exact fr_var | exact fr_pk | exact fr_c | exact fr_nil | exact fr_no | exact fr_yes | exact fr_skip | exact fr_stop | exact fr_retN | exact fr_pop | exact fr_d0 | apply fr_bin | apply fr_tst | apply fr_chain | apply fr_andT | apply fr_orT | apply fr_notT | apply fr_if | apply fr_andV | apply fr_orV | apply fr_notV | apply fr_cons | apply fr_tup | apply fr_lst | apply fr_part | apply fr_sl | apply fr_blt | apply fr_isi | apply fr_fn | apply fr_itL | apply fr_itT | apply fr_itA | apply fr_rg1 | apply fr_rg2 | apply fr_lstI | apply fr_tupI | apply fr_enT | apply fr_enL | apply fr_zip | apply fr_new | apply fr_comp | apply fr_comp2 | apply fr_items | apply fr_listN | apply fr_neg | apply fr_seq | apply fr_ret | apply fr_exp | apply fr_ifS | apply fr_asg | apply fr_par | apply fr_setO | apply fr_frz | apply fr_app | apply fr_ext | apply fr_for | apply fr_while | apply fr_aug | apply fr_callV | apply fr_lamcall | apply fr_newD | apply fr_setD | apply fr_dc | apply fr_put)
theorem fr__law_books : FrF m__law_books := fr_def (by with_reducible repeat' first | exact fr_var | exact fr_pk | exact fr_c | exact fr_nil | exact fr_no | exact fr_yes | exact fr_skip | exact fr_stop | exact fr_retN | exact fr_pop | exact fr_d0 | apply fr_bin | apply fr_tst | apply fr_chain | apply fr_andT | apply fr_orT | apply fr_notT | apply fr_if | apply fr_andV | apply fr_orV | apply fr_notV | apply fr_cons | apply fr_tup | apply fr_lst | apply fr_part | apply fr_sl | apply fr_blt | apply fr_isi | apply fr_fn | apply fr_itL | apply fr_itT | apply fr_itA | apply fr_rg1 | apply fr_rg2 | apply fr_lstI | apply fr_tupI | apply fr_enT | apply fr_enL | apply fr_zip | apply fr_new | apply fr_comp | apply fr_comp2 | apply fr_items | apply fr_listN | apply fr_neg | apply fr_seq | apply fr_ret | apply fr_exp | apply fr_ifS | apply fr_asg | apply fr_par | apply fr_setO | apply fr_frz | apply fr_app | apply fr_ext | apply fr_for | apply fr_while | apply fr_aug | apply fr_callV | apply fr_lamcall | apply fr_newD | apply fr_setD | apply fr_dc | apply fr_put)
theorem fr_is_choice : FrF m_is_choice := fr_def (by with_reducible repeat' first | exact fr_var | exact fr_pk | exact fr_c | exact fr_nil | exact fr_no | exact fr_yes | exact fr_skip | exact fr_stop | exact fr_retN | exact fr_pop | exact fr_d0 | exact fr_is_tuple_of | exact fr_is_whole | apply fr_bin | apply fr_tst | apply fr_chain | apply fr_andT | apply fr_orT | apply fr_notT | apply fr_if | apply fr_andV | apply fr_orV | apply fr_notV | apply fr_cons | apply fr_tup | apply fr_lst | apply fr_part | apply fr_sl | apply fr_blt | apply fr_isi | apply fr_fn | apply fr_itL | apply fr_itT | apply fr_itA | apply fr_rg1 | apply fr_rg2 | apply fr_lstI | apply fr_tupI | apply fr_enT | apply fr_enL | apply fr_zip | apply fr_new | apply fr_comp | apply fr_comp2 | apply fr_items | apply fr_listN | apply fr_neg | apply fr_seq | apply fr_ret | apply fr_exp | apply fr_ifS | apply fr_asg | apply fr_par | apply fr_setO | apply fr_frz | apply fr_app | apply fr_ext | apply fr_for | apply fr_while | apply fr_aug | apply fr_callV | apply fr_lamcall | apply fr_newD | apply fr_setD | apply fr_dc | apply fr_put)
theorem fr_numbers_fault : FrF m_numbers_fault := fr_def (by with_reducible repeat' first | exact fr_var | exact fr_pk | exact fr_c | exact fr_nil | exact fr_no | exact fr_yes | exact fr_skip | exact fr_stop | exact fr_retN | exact fr_pop | exact fr_d0 | exact fr_is_whole | apply fr_bin | apply fr_tst | apply fr_chain | apply fr_andT | apply fr_orT | apply fr_notT | apply fr_if | apply fr_andV | apply fr_orV | apply fr_notV | apply fr_cons | apply fr_tup | apply fr_lst | apply fr_part | apply fr_sl | apply fr_blt | apply fr_isi | apply fr_fn | apply fr_itL | apply fr_itT | apply fr_itA | apply fr_rg1 | apply fr_rg2 | apply fr_lstI | apply fr_tupI | apply fr_enT | apply fr_enL | apply fr_zip | apply fr_new | apply fr_comp | apply fr_comp2 | apply fr_items | apply fr_listN | apply fr_neg | apply fr_seq | apply fr_ret | apply fr_exp | apply fr_ifS | apply fr_asg | apply fr_par | apply fr_setO | apply fr_frz | apply fr_app | apply fr_ext | apply fr_for | apply fr_while | apply fr_aug | apply fr_callV | apply fr_lamcall | apply fr_newD | apply fr_setD | apply fr_dc | apply fr_put)
theorem fr_followers : FrF m_followers := fr_def (by with_reducible repeat' first | exact fr_var | exact fr_pk | exact fr_c | exact fr_nil | exact fr_no | exact fr_yes | exact fr_skip | exact fr_stop | exact fr_retN | exact fr_pop | exact fr_d0 | exact fr_follows_in | apply fr_bin | apply fr_tst | apply fr_chain | apply fr_andT | apply fr_orT | apply fr_notT | apply fr_if | apply fr_andV | apply fr_orV | apply fr_notV | apply fr_cons | apply fr_tup | apply fr_lst | apply fr_part | apply fr_sl | apply fr_blt | apply fr_isi | apply fr_fn | apply fr_itL | apply fr_itT | apply fr_itA | apply fr_rg1 | apply fr_rg2 | apply fr_lstI | apply fr_tupI | apply fr_enT | apply fr_enL | apply fr_zip | apply fr_new | apply fr_comp | apply fr_comp2 | apply fr_items | apply fr_listN | apply fr_neg | apply fr_seq | apply fr_ret | apply fr_exp | apply fr_ifS | apply fr_asg | apply fr_par | apply fr_setO | apply fr_frz | apply fr_app | apply fr_ext | apply fr_for | apply fr_while | apply fr_aug | apply fr_callV | apply fr_lamcall | apply fr_newD | apply fr_setD | apply fr_dc | apply fr_put)
theorem fr_is_standing_in : FrF m_is_standing_in := fr_def (by with_reducible repeat' first | exact fr_var | exact fr_pk | exact fr_c | exact fr_nil | exact fr_no | exact fr_yes | exact fr_skip | exact fr_stop | exact fr_retN | exact fr_pop | exact fr_d0 | exact fr_is_tuple_of | exact fr_is_whole | exact fr_far_in | apply fr_bin | apply fr_tst | apply fr_chain | apply fr_andT | apply fr_orT | apply fr_notT | apply fr_if | apply fr_andV | apply fr_orV | apply fr_notV | apply fr_cons | apply fr_tup | apply fr_lst | apply fr_part | apply fr_sl | apply fr_blt | apply fr_isi | apply fr_fn | apply fr_itL | apply fr_itT | apply fr_itA | apply fr_rg1 | apply fr_rg2 | apply fr_lstI | apply fr_tupI | apply fr_enT | apply fr_enL | apply fr_zip | apply fr_new | apply fr_comp | apply fr_comp2 | apply fr_items | apply fr_listN | apply fr_neg | apply fr_seq | apply fr_ret | apply fr_exp | apply fr_ifS | apply fr_asg | apply fr_par | apply fr_setO | apply fr_frz | apply fr_app | apply fr_ext | apply fr_for | apply fr_while | apply fr_aug | apply fr_callV | apply fr_lamcall | apply fr_newD | apply fr_setD | apply fr_dc | apply fr_put)
theorem fr_aspect_seen : FrF m_aspect_seen := fr_def (by with_reducible repeat' first | exact fr_var | exact fr_pk | exact fr_c | exact fr_nil | exact fr_no | exact fr_yes | exact fr_skip | exact fr_stop | exact fr_retN | exact fr_pop | exact fr_d0 | exact fr_aspect_in | apply fr_bin | apply fr_tst | apply fr_chain | apply fr_andT | apply fr_orT | apply fr_notT | apply fr_if | apply fr_andV | apply fr_orV | apply fr_notV | apply fr_cons | apply fr_tup | apply fr_lst | apply fr_part | apply fr_sl | apply fr_blt | apply fr_isi | apply fr_fn | apply fr_itL | apply fr_itT | apply fr_itA | apply fr_rg1 | apply fr_rg2 | apply fr_lstI | apply fr_tupI | apply fr_enT | apply fr_enL | apply fr_zip | apply fr_new | apply fr_comp | apply fr_comp2 | apply fr_items | apply fr_listN | apply fr_neg | apply fr_seq | apply fr_ret | apply fr_exp | apply fr_ifS | apply fr_asg | apply fr_par | apply fr_setO | apply fr_frz | apply fr_app | apply fr_ext | apply fr_for | apply fr_while | apply fr_aug | apply fr_callV | apply fr_lamcall | apply fr_newD | apply fr_setD | apply fr_dc | apply fr_put)
theorem fr_leads_in : FrF m_leads_in := fr_def (by with_reducible repeat' first | exact fr_var | exact fr_pk | exact fr_c | exact fr_nil | exact fr_no | exact fr_yes | exact fr_skip | exact fr_stop | exact fr_retN | exact fr_pop | exact fr_d0 | exact fr_leads_by | exact fr_far_in | apply fr_bin | apply fr_tst | apply fr_chain | apply fr_andT | apply fr_orT | apply fr_notT | apply fr_if | apply fr_andV | apply fr_orV | apply fr_notV | apply fr_cons | apply fr_tup | apply fr_lst | apply fr_part | apply fr_sl | apply fr_blt | apply fr_isi | apply fr_fn | apply fr_itL | apply fr_itT | apply fr_itA | apply fr_rg1 | apply fr_rg2 | apply fr_lstI | apply fr_tupI | apply fr_enT | apply fr_enL | apply fr_zip | apply fr_new | apply fr_comp | apply fr_comp2 | apply fr_items | apply fr_listN | apply fr_neg | apply fr_seq | apply fr_ret | apply fr_exp | apply fr_ifS | apply fr_asg | apply fr_par | apply fr_setO | apply fr_frz | apply fr_app | apply fr_ext | apply fr_for | apply fr_while | apply fr_aug | apply fr_callV | apply fr_lamcall | apply fr_newD | apply fr_setD | apply fr_dc | apply fr_put)
theorem fr_is_start : FrF m_is_start := fr_def (by with_reducible repeat' first | exact fr_var | exact fr_pk | exact fr_c | exact fr_nil | exact fr_no | exact fr_yes | exact fr_skip | exact fr_stop | exact fr_retN | exact fr_pop | exact fr_d0 | exact fr_is_start_by | exact fr_far_in | apply fr_bin | apply fr_tst | apply fr_chain | apply fr_andT | apply fr_orT | apply fr_notT | apply fr_if | apply fr_andV | apply fr_orV | apply fr_notV | apply fr_cons | apply fr_tup | apply fr_lst | apply fr_part | apply fr_sl | apply fr_blt | apply fr_isi | apply fr_fn | apply fr_itL | apply fr_itT | apply fr_itA | apply fr_rg1 | apply fr_rg2 | apply fr_lstI | apply fr_tupI | apply fr_enT | apply fr_enL | apply fr_zip | apply fr_new | apply fr_comp | apply fr_comp2 | apply fr_items | apply fr_listN | apply fr_neg | apply fr_seq | apply fr_ret | apply fr_exp | apply fr_ifS | apply fr_asg | apply fr_par | apply fr_setO | apply fr_frz | apply fr_app | apply fr_ext | apply fr_for | apply fr_while | apply fr_aug | apply fr_callV | apply fr_lamcall | apply fr_newD | apply fr_setD | apply fr_dc | apply fr_put)
theorem fr_starts_by : FrF m_starts_by := fr_def (by with_reducible repeat' first | exact fr_var | exact fr_pk | exact fr_c | exact fr_nil | exact fr_no | exact fr_yes | exact fr_skip | exact fr_stop | exact fr_retN | exact fr_pop | exact fr_d0 | exact fr_standings_to | exact fr_is_start_by | apply fr_bin | apply fr_tst | apply fr_chain | apply fr_andT | apply fr_orT | apply fr_notT | apply fr_if | apply fr_andV | apply fr_orV | apply fr_notV | apply fr_cons | apply fr_tup | apply fr_lst | apply fr_part | apply fr_sl | apply fr_blt | apply fr_isi | apply fr_fn | apply fr_itL | apply fr_itT | apply fr_itA | apply fr_rg1 | apply fr_rg2 | apply fr_lstI | apply fr_tupI | apply fr_enT | apply fr_enL | apply fr_zip | apply fr_new | apply fr_comp | apply fr_comp2 | apply fr_items | apply fr_listN | apply fr_neg | apply fr_seq | apply fr_ret | apply fr_exp | apply fr_ifS | apply fr_asg | apply fr_par | apply fr_setO | apply fr_frz | apply fr_app | apply fr_ext | apply fr_for | apply fr_while | apply fr_aug | apply fr_callV | apply fr_lamcall | apply fr_newD | apply fr_setD | apply fr_dc | apply fr_put)
theorem fr_capped : FrF m_capped := fr_def (by with_reducible repeat' first | exact fr_var | exact fr_pk | exact fr_c | exact fr_nil | exact fr_no | exact fr_yes | exact fr_skip | exact fr_stop | exact fr_retN | exact fr_pop | exact fr_d0 | exact fr_far_in | apply fr_bin | apply fr_tst | apply fr_chain | apply fr_andT | apply fr_orT | apply fr_notT | apply fr_if | apply fr_andV | apply fr_orV | apply fr_notV | apply fr_cons | apply fr_tup | apply fr_lst | apply fr_part | apply fr_sl | apply fr_blt | apply fr_isi | apply fr_fn | apply fr_itL | apply fr_itT | apply fr_itA | apply fr_rg1 | apply fr_rg2 | apply fr_lstI | apply fr_tupI | apply fr_enT | apply fr_enL | apply fr_zip | apply fr_new | apply fr_comp | apply fr_comp2 | apply fr_items | apply fr_listN | apply fr_neg | apply fr_seq | apply fr_ret | apply fr_exp | apply fr_ifS | apply fr_asg | apply fr_par | apply fr_setO | apply fr_frz | apply fr_app | apply fr_ext | apply fr_for | apply fr_while | apply fr_aug | apply fr_callV | apply fr_lamcall | apply fr_newD | apply fr_setD | apply fr_dc | apply fr_put)
theorem fr_exact_start : FrF m_exact_start := fr_def (by with_reducible repeat' first | exact fr_var | exact fr_pk | exact fr_c | exact fr_nil | exact fr_no | exact fr_yes | exact fr_skip | exact fr_stop | exact fr_retN | exact fr_pop | exact fr_d0 | exact fr_far_in | apply fr_bin | apply fr_tst | apply fr_chain | apply fr_andT | apply fr_orT | apply fr_notT | apply fr_if | apply fr_andV | apply fr_orV | apply fr_notV | apply fr_cons | apply fr_tup | apply fr_lst | apply fr_part | apply fr_sl | apply fr_blt | apply fr_isi | apply fr_fn | apply fr_itL | apply fr_itT | apply fr_itA | apply fr_rg1 | apply fr_rg2 | apply fr_lstI | apply fr_tupI | apply fr_enT | apply fr_enL | apply fr_zip | apply fr_new | apply fr_comp | apply fr_comp2 | apply fr_items | apply fr_listN | apply fr_neg | apply fr_seq | apply fr_ret | apply fr_exp | apply fr_ifS | apply fr_asg | apply fr_par | apply fr_setO | apply fr_frz | apply fr_app | apply fr_ext | apply fr_for | apply fr_while | apply fr_aug | apply fr_callV | apply fr_lamcall | apply fr_newD | apply fr_setD | apply fr_dc | apply fr_put)
theorem fr_need_form : FrF m_need_form := fr_def (by with_reducible repeat' first | exact fr_var | exact fr_pk | exact fr_c | exact fr_nil | exact fr_no | exact fr_yes | exact fr_skip | exact fr_stop | exact fr_retN | exact fr_pop | exact fr_d0 | exact fr_is_tuple_of | exact fr_is_whole | apply fr_bin | apply fr_tst | apply fr_chain | apply fr_andT | apply fr_orT | apply fr_notT | apply fr_if | apply fr_andV | apply fr_orV | apply fr_notV | apply fr_cons | apply fr_tup | apply fr_lst | apply fr_part | apply fr_sl | apply fr_blt | apply fr_isi | apply fr_fn | apply fr_itL | apply fr_itT | apply fr_itA | apply fr_rg1 | apply fr_rg2 | apply fr_lstI | apply fr_tupI | apply fr_enT | apply fr_enL | apply fr_zip | apply fr_new | apply fr_comp | apply fr_comp2 | apply fr_items | apply fr_listN | apply fr_neg | apply fr_seq | apply fr_ret | apply fr_exp | apply fr_ifS | apply fr_asg | apply fr_par | apply fr_setO | apply fr_frz | apply fr_app | apply fr_ext | apply fr_for | apply fr_while | apply fr_aug | apply fr_callV | apply fr_lamcall | apply fr_newD | apply fr_setD | apply fr_dc | apply fr_put)
theorem fr_is_row : FrF m_is_row := fr_def (by with_reducible repeat' first | exact fr_var | exact fr_pk | exact fr_c | exact fr_nil | exact fr_no | exact fr_yes | exact fr_skip | exact fr_stop | exact fr_retN | exact fr_pop | exact fr_d0 | exact fr_is_tuple_of | exact fr_is_choice | exact fr_follows_in | apply fr_bin | apply fr_tst | apply fr_chain | apply fr_andT | apply fr_orT | apply fr_notT | apply fr_if | apply fr_andV | apply fr_orV | apply fr_notV | apply fr_cons | apply fr_tup | apply fr_lst | apply fr_part | apply fr_sl | apply fr_blt | apply fr_isi | apply fr_fn | apply fr_itL | apply fr_itT | apply fr_itA | apply fr_rg1 | apply fr_rg2 | apply fr_lstI | apply fr_tupI | apply fr_enT | apply fr_enL | apply fr_zip | apply fr_new | apply fr_comp | apply fr_comp2 | apply fr_items | apply fr_listN | apply fr_neg | apply fr_seq | apply fr_ret | apply fr_exp | apply fr_ifS | apply fr_asg | apply fr_par | apply fr_setO | apply fr_frz | apply fr_app | apply fr_ext | apply fr_for | apply fr_while | apply fr_aug | apply fr_callV | apply fr_lamcall | apply fr_newD | apply fr_setD | apply fr_dc | apply fr_put)
theorem fr_choices_in : FrF m_choices_in := fr_def (by with_reducible repeat' first | exact fr_var | exact fr_pk | exact fr_c | exact fr_nil | exact fr_no | exact fr_yes | exact fr_skip | exact fr_stop | exact fr_retN | exact fr_pop | exact fr_d0 | exact fr_aspect_seen | apply fr_bin | apply fr_tst | apply fr_chain | apply fr_andT | apply fr_orT | apply fr_notT | apply fr_if | apply fr_andV | apply fr_orV | apply fr_notV | apply fr_cons | apply fr_tup | apply fr_lst | apply fr_part | apply fr_sl | apply fr_blt | apply fr_isi | apply fr_fn | apply fr_itL | apply fr_itT | apply fr_itA | apply fr_rg1 | apply fr_rg2 | apply fr_lstI | apply fr_tupI | apply fr_enT | apply fr_enL | apply fr_zip | apply fr_new | apply fr_comp | apply fr_comp2 | apply fr_items | apply fr_listN | apply fr_neg | apply fr_seq | apply fr_ret | apply fr_exp | apply fr_ifS | apply fr_asg | apply fr_par | apply fr_setO | apply fr_frz | apply fr_app | apply fr_ext | apply fr_for | apply fr_while | apply fr_aug | apply fr_callV | apply fr_lamcall | apply fr_newD | apply fr_setD | apply fr_dc | apply fr_put)
theorem fr_starts_in : FrF m_starts_in := fr_def (by with_reducible repeat' first | exact fr_var | exact fr_pk | exact fr_c | exact fr_nil | exact fr_no | exact fr_yes | exact fr_skip | exact fr_stop | exact fr_retN | exact fr_pop | exact fr_d0 | exact fr_starts_by | exact fr_far_in | apply fr_bin | apply fr_tst | apply fr_chain | apply fr_andT | apply fr_orT | apply fr_notT | apply fr_if | apply fr_andV | apply fr_orV | apply fr_notV | apply fr_cons | apply fr_tup | apply fr_lst | apply fr_part | apply fr_sl | apply fr_blt | apply fr_isi | apply fr_fn | apply fr_itL | apply fr_itT | apply fr_itA | apply fr_rg1 | apply fr_rg2 | apply fr_lstI | apply fr_tupI | apply fr_enT | apply fr_enL | apply fr_zip | apply fr_new | apply fr_comp | apply fr_comp2 | apply fr_items | apply fr_listN | apply fr_neg | apply fr_seq | apply fr_ret | apply fr_exp | apply fr_ifS | apply fr_asg | apply fr_par | apply fr_setO | apply fr_frz | apply fr_app | apply fr_ext | apply fr_for | apply fr_while | apply fr_aug | apply fr_callV | apply fr_lamcall | apply fr_newD | apply fr_setD | apply fr_dc | apply fr_put)
theorem fr_steps_in : FrF m_steps_in := fr_def (by with_reducible repeat' first | exact fr_var | exact fr_pk | exact fr_c | exact fr_nil | exact fr_no | exact fr_yes | exact fr_skip | exact fr_stop | exact fr_retN | exact fr_pop | exact fr_d0 | exact fr_followers | exact fr_choices_in | apply fr_bin | apply fr_tst | apply fr_chain | apply fr_andT | apply fr_orT | apply fr_notT | apply fr_if | apply fr_andV | apply fr_orV | apply fr_notV | apply fr_cons | apply fr_tup | apply fr_lst | apply fr_part | apply fr_sl | apply fr_blt | apply fr_isi | apply fr_fn | apply fr_itL | apply fr_itT | apply fr_itA | apply fr_rg1 | apply fr_rg2 | apply fr_lstI | apply fr_tupI | apply fr_enT | apply fr_enL | apply fr_zip | apply fr_new | apply fr_comp | apply fr_comp2 | apply fr_items | apply fr_listN | apply fr_neg | apply fr_seq | apply fr_ret | apply fr_exp | apply fr_ifS | apply fr_asg | apply fr_par | apply fr_setO | apply fr_frz | apply fr_app | apply fr_ext | apply fr_for | apply fr_while | apply fr_aug | apply fr_callV | apply fr_lamcall | apply fr_newD | apply fr_setD | apply fr_dc | apply fr_put)
theorem fr_LF : FrL LF := fun n cs ds => match n with
  | 0 => fr_lam (by unfold m_lam_0; with_reducible repeat' first | exact fr_var | exact fr_pk | exact fr_c | exact fr_nil | exact fr_no | exact fr_yes | exact fr_skip | exact fr_stop | exact fr_retN | exact fr_pop | exact fr_d0 | exact fr_is_row | apply fr_bin | apply fr_tst | apply fr_chain | apply fr_andT | apply fr_orT | apply fr_notT | apply fr_if | apply fr_andV | apply fr_orV | apply fr_notV | apply fr_cons | apply fr_tup | apply fr_lst | apply fr_part | apply fr_sl | apply fr_blt | apply fr_isi | apply fr_fn | apply fr_itL | apply fr_itT | apply fr_itA | apply fr_rg1 | apply fr_rg2 | apply fr_lstI | apply fr_tupI | apply fr_enT | apply fr_enL | apply fr_zip | apply fr_new | apply fr_comp | apply fr_comp2 | apply fr_items | apply fr_listN | apply fr_neg | apply fr_seq | apply fr_ret | apply fr_exp | apply fr_ifS | apply fr_asg | apply fr_par | apply fr_setO | apply fr_frz | apply fr_app | apply fr_ext | apply fr_for | apply fr_while | apply fr_aug | apply fr_callV | apply fr_lamcall | apply fr_newD | apply fr_setD | apply fr_dc | apply fr_put) cs ds
  | 1 => fr_lam (by unfold m_lam_1; with_reducible repeat' first | exact fr_var | exact fr_pk | exact fr_c | exact fr_nil | exact fr_no | exact fr_yes | exact fr_skip | exact fr_stop | exact fr_retN | exact fr_pop | exact fr_d0 | exact fr_is_whole | apply fr_bin | apply fr_tst | apply fr_chain | apply fr_andT | apply fr_orT | apply fr_notT | apply fr_if | apply fr_andV | apply fr_orV | apply fr_notV | apply fr_cons | apply fr_tup | apply fr_lst | apply fr_part | apply fr_sl | apply fr_blt | apply fr_isi | apply fr_fn | apply fr_itL | apply fr_itT | apply fr_itA | apply fr_rg1 | apply fr_rg2 | apply fr_lstI | apply fr_tupI | apply fr_enT | apply fr_enL | apply fr_zip | apply fr_new | apply fr_comp | apply fr_comp2 | apply fr_items | apply fr_listN | apply fr_neg | apply fr_seq | apply fr_ret | apply fr_exp | apply fr_ifS | apply fr_asg | apply fr_par | apply fr_setO | apply fr_frz | apply fr_app | apply fr_ext | apply fr_for | apply fr_while | apply fr_aug | apply fr_callV | apply fr_lamcall | apply fr_newD | apply fr_setD | apply fr_dc | apply fr_put) cs ds
  | _ + 2 => Fr.st
theorem fr_first_fault : FrF m_first_fault := fr_def (by with_reducible repeat' first | exact fr_var | exact fr_pk | exact fr_c | exact fr_nil | exact fr_no | exact fr_yes | exact fr_skip | exact fr_stop | exact fr_retN | exact fr_pop | exact fr_d0 | exact fr_is_tuple_of | exact fr_LF | apply fr_bin | apply fr_tst | apply fr_chain | apply fr_andT | apply fr_orT | apply fr_notT | apply fr_if | apply fr_andV | apply fr_orV | apply fr_notV | apply fr_cons | apply fr_tup | apply fr_lst | apply fr_part | apply fr_sl | apply fr_blt | apply fr_isi | apply fr_fn | apply fr_itL | apply fr_itT | apply fr_itA | apply fr_rg1 | apply fr_rg2 | apply fr_lstI | apply fr_tupI | apply fr_enT | apply fr_enL | apply fr_zip | apply fr_new | apply fr_comp | apply fr_comp2 | apply fr_items | apply fr_listN | apply fr_neg | apply fr_seq | apply fr_ret | apply fr_exp | apply fr_ifS | apply fr_asg | apply fr_par | apply fr_setO | apply fr_frz | apply fr_app | apply fr_ext | apply fr_for | apply fr_while | apply fr_aug | apply fr_callV | apply fr_lamcall | apply fr_newD | apply fr_setD | apply fr_dc | apply fr_put)
theorem fr_is_step_in : FrF m_is_step_in := fr_def (by with_reducible repeat' first | exact fr_var | exact fr_pk | exact fr_c | exact fr_nil | exact fr_no | exact fr_yes | exact fr_skip | exact fr_stop | exact fr_retN | exact fr_pop | exact fr_d0 | exact fr_is_tuple_of | exact fr_is_whole | exact fr_steps_in | apply fr_bin | apply fr_tst | apply fr_chain | apply fr_andT | apply fr_orT | apply fr_notT | apply fr_if | apply fr_andV | apply fr_orV | apply fr_notV | apply fr_cons | apply fr_tup | apply fr_lst | apply fr_part | apply fr_sl | apply fr_blt | apply fr_isi | apply fr_fn | apply fr_itL | apply fr_itT | apply fr_itA | apply fr_rg1 | apply fr_rg2 | apply fr_lstI | apply fr_tupI | apply fr_enT | apply fr_enL | apply fr_zip | apply fr_new | apply fr_comp | apply fr_comp2 | apply fr_items | apply fr_listN | apply fr_neg | apply fr_seq | apply fr_ret | apply fr_exp | apply fr_ifS | apply fr_asg | apply fr_par | apply fr_setO | apply fr_frz | apply fr_app | apply fr_ext | apply fr_for | apply fr_while | apply fr_aug | apply fr_callV | apply fr_lamcall | apply fr_newD | apply fr_setD | apply fr_dc | apply fr_put)
theorem fr_coming_in : FrF m_coming_in := fr_def (by with_reducible repeat' first | exact fr_var | exact fr_pk | exact fr_c | exact fr_nil | exact fr_no | exact fr_yes | exact fr_skip | exact fr_stop | exact fr_retN | exact fr_pop | exact fr_d0 | exact fr_starts_in | exact fr_steps_in | exact fr_leads_in | apply fr_bin | apply fr_tst | apply fr_chain | apply fr_andT | apply fr_orT | apply fr_notT | apply fr_if | apply fr_andV | apply fr_orV | apply fr_notV | apply fr_cons | apply fr_tup | apply fr_lst | apply fr_part | apply fr_sl | apply fr_blt | apply fr_isi | apply fr_fn | apply fr_itL | apply fr_itT | apply fr_itA | apply fr_rg1 | apply fr_rg2 | apply fr_lstI | apply fr_tupI | apply fr_enT | apply fr_enL | apply fr_zip | apply fr_new | apply fr_comp | apply fr_comp2 | apply fr_items | apply fr_listN | apply fr_neg | apply fr_seq | apply fr_ret | apply fr_exp | apply fr_ifS | apply fr_asg | apply fr_par | apply fr_setO | apply fr_frz | apply fr_app | apply fr_ext | apply fr_for | apply fr_while | apply fr_aug | apply fr_callV | apply fr_lamcall | apply fr_newD | apply fr_setD | apply fr_dc | apply fr_put)
theorem fr_crash_steps : FrF m_crash_steps := fr_def (by with_reducible repeat' first | exact fr_var | exact fr_pk | exact fr_c | exact fr_nil | exact fr_no | exact fr_yes | exact fr_skip | exact fr_stop | exact fr_retN | exact fr_pop | exact fr_d0 | exact fr_steps_in | apply fr_bin | apply fr_tst | apply fr_chain | apply fr_andT | apply fr_orT | apply fr_notT | apply fr_if | apply fr_andV | apply fr_orV | apply fr_notV | apply fr_cons | apply fr_tup | apply fr_lst | apply fr_part | apply fr_sl | apply fr_blt | apply fr_isi | apply fr_fn | apply fr_itL | apply fr_itT | apply fr_itA | apply fr_rg1 | apply fr_rg2 | apply fr_lstI | apply fr_tupI | apply fr_enT | apply fr_enL | apply fr_zip | apply fr_new | apply fr_comp | apply fr_comp2 | apply fr_items | apply fr_listN | apply fr_neg | apply fr_seq | apply fr_ret | apply fr_exp | apply fr_ifS | apply fr_asg | apply fr_par | apply fr_setO | apply fr_frz | apply fr_app | apply fr_ext | apply fr_for | apply fr_while | apply fr_aug | apply fr_callV | apply fr_lamcall | apply fr_newD | apply fr_setD | apply fr_dc | apply fr_put)
theorem fr_is_closed : FrF m_is_closed := fr_def (by with_reducible repeat' first | exact fr_var | exact fr_pk | exact fr_c | exact fr_nil | exact fr_no | exact fr_yes | exact fr_skip | exact fr_stop | exact fr_retN | exact fr_pop | exact fr_d0 | exact fr_is_standing_in | exact fr_starts_in | exact fr_steps_in | exact fr_leads_in | apply fr_bin | apply fr_tst | apply fr_chain | apply fr_andT | apply fr_orT | apply fr_notT | apply fr_if | apply fr_andV | apply fr_orV | apply fr_notV | apply fr_cons | apply fr_tup | apply fr_lst | apply fr_part | apply fr_sl | apply fr_blt | apply fr_isi | apply fr_fn | apply fr_itL | apply fr_itT | apply fr_itA | apply fr_rg1 | apply fr_rg2 | apply fr_lstI | apply fr_tupI | apply fr_enT | apply fr_enL | apply fr_zip | apply fr_new | apply fr_comp | apply fr_comp2 | apply fr_items | apply fr_listN | apply fr_neg | apply fr_seq | apply fr_ret | apply fr_exp | apply fr_ifS | apply fr_asg | apply fr_par | apply fr_setO | apply fr_frz | apply fr_app | apply fr_ext | apply fr_for | apply fr_while | apply fr_aug | apply fr_callV | apply fr_lamcall | apply fr_newD | apply fr_setD | apply fr_dc | apply fr_put)
theorem fr_book_fault : FrF m_book_fault := fr_def (by with_reducible repeat' first | exact fr_var | exact fr_pk | exact fr_c | exact fr_nil | exact fr_no | exact fr_yes | exact fr_skip | exact fr_stop | exact fr_retN | exact fr_pop | exact fr_d0 | exact fr_is_tuple_of | exact fr_numbers_fault | exact fr_first_fault | apply fr_bin | apply fr_tst | apply fr_chain | apply fr_andT | apply fr_orT | apply fr_notT | apply fr_if | apply fr_andV | apply fr_orV | apply fr_notV | apply fr_cons | apply fr_tup | apply fr_lst | apply fr_part | apply fr_sl | apply fr_blt | apply fr_isi | apply fr_fn | apply fr_itL | apply fr_itT | apply fr_itA | apply fr_rg1 | apply fr_rg2 | apply fr_lstI | apply fr_tupI | apply fr_enT | apply fr_enL | apply fr_zip | apply fr_new | apply fr_comp | apply fr_comp2 | apply fr_items | apply fr_listN | apply fr_neg | apply fr_seq | apply fr_ret | apply fr_exp | apply fr_ifS | apply fr_asg | apply fr_par | apply fr_setO | apply fr_frz | apply fr_app | apply fr_ext | apply fr_for | apply fr_while | apply fr_aug | apply fr_callV | apply fr_lamcall | apply fr_newD | apply fr_setD | apply fr_dc | apply fr_put)
theorem fr_crash_in : FrF m_crash_in := fr_def (by with_reducible repeat' first | exact fr_var | exact fr_pk | exact fr_c | exact fr_nil | exact fr_no | exact fr_yes | exact fr_skip | exact fr_stop | exact fr_retN | exact fr_pop | exact fr_d0 | exact fr_starts_in | exact fr_crash_steps | exact fr_steps_in | exact fr_leads_in | apply fr_bin | apply fr_tst | apply fr_chain | apply fr_andT | apply fr_orT | apply fr_notT | apply fr_if | apply fr_andV | apply fr_orV | apply fr_notV | apply fr_cons | apply fr_tup | apply fr_lst | apply fr_part | apply fr_sl | apply fr_blt | apply fr_isi | apply fr_fn | apply fr_itL | apply fr_itT | apply fr_itA | apply fr_rg1 | apply fr_rg2 | apply fr_lstI | apply fr_tupI | apply fr_enT | apply fr_enL | apply fr_zip | apply fr_new | apply fr_comp | apply fr_comp2 | apply fr_items | apply fr_listN | apply fr_neg | apply fr_seq | apply fr_ret | apply fr_exp | apply fr_ifS | apply fr_asg | apply fr_par | apply fr_setO | apply fr_frz | apply fr_app | apply fr_ext | apply fr_for | apply fr_while | apply fr_aug | apply fr_callV | apply fr_lamcall | apply fr_newD | apply fr_setD | apply fr_dc | apply fr_put)
theorem fr_need_book : FrF m_need_book := fr_def (by with_reducible repeat' first | exact fr_var | exact fr_pk | exact fr_c | exact fr_nil | exact fr_no | exact fr_yes | exact fr_skip | exact fr_stop | exact fr_retN | exact fr_pop | exact fr_d0 | exact fr_book_fault | apply fr_bin | apply fr_tst | apply fr_chain | apply fr_andT | apply fr_orT | apply fr_notT | apply fr_if | apply fr_andV | apply fr_orV | apply fr_notV | apply fr_cons | apply fr_tup | apply fr_lst | apply fr_part | apply fr_sl | apply fr_blt | apply fr_isi | apply fr_fn | apply fr_itL | apply fr_itT | apply fr_itA | apply fr_rg1 | apply fr_rg2 | apply fr_lstI | apply fr_tupI | apply fr_enT | apply fr_enL | apply fr_zip | apply fr_new | apply fr_comp | apply fr_comp2 | apply fr_items | apply fr_listN | apply fr_neg | apply fr_seq | apply fr_ret | apply fr_exp | apply fr_ifS | apply fr_asg | apply fr_par | apply fr_setO | apply fr_frz | apply fr_app | apply fr_ext | apply fr_for | apply fr_while | apply fr_aug | apply fr_callV | apply fr_lamcall | apply fr_newD | apply fr_setD | apply fr_dc | apply fr_put)
theorem fr_crash_paper : FrF m_crash_paper := fr_def (by with_reducible repeat' first | exact fr_var | exact fr_pk | exact fr_c | exact fr_nil | exact fr_no | exact fr_yes | exact fr_skip | exact fr_stop | exact fr_retN | exact fr_pop | exact fr_d0 | exact fr_crash_in | exact fr_exact_start | apply fr_bin | apply fr_tst | apply fr_chain | apply fr_andT | apply fr_orT | apply fr_notT | apply fr_if | apply fr_andV | apply fr_orV | apply fr_notV | apply fr_cons | apply fr_tup | apply fr_lst | apply fr_part | apply fr_sl | apply fr_blt | apply fr_isi | apply fr_fn | apply fr_itL | apply fr_itT | apply fr_itA | apply fr_rg1 | apply fr_rg2 | apply fr_lstI | apply fr_tupI | apply fr_enT | apply fr_enL | apply fr_zip | apply fr_new | apply fr_comp | apply fr_comp2 | apply fr_items | apply fr_listN | apply fr_neg | apply fr_seq | apply fr_ret | apply fr_exp | apply fr_ifS | apply fr_asg | apply fr_par | apply fr_setO | apply fr_frz | apply fr_app | apply fr_ext | apply fr_for | apply fr_while | apply fr_aug | apply fr_callV | apply fr_lamcall | apply fr_newD | apply fr_setD | apply fr_dc | apply fr_put)
theorem fr_check_crash : FrF m_check_crash := fr_def (by with_reducible repeat' first | exact fr_var | exact fr_pk | exact fr_c | exact fr_nil | exact fr_no | exact fr_yes | exact fr_skip | exact fr_stop | exact fr_retN | exact fr_pop | exact fr_d0 | exact fr_is_standing_in | exact fr_capped | exact fr_is_start | exact fr_is_step_in | exact fr_moved | exact fr_crash_in | apply fr_bin | apply fr_tst | apply fr_chain | apply fr_andT | apply fr_orT | apply fr_notT | apply fr_if | apply fr_andV | apply fr_orV | apply fr_notV | apply fr_cons | apply fr_tup | apply fr_lst | apply fr_part | apply fr_sl | apply fr_blt | apply fr_isi | apply fr_fn | apply fr_itL | apply fr_itT | apply fr_itA | apply fr_rg1 | apply fr_rg2 | apply fr_lstI | apply fr_tupI | apply fr_enT | apply fr_enL | apply fr_zip | apply fr_new | apply fr_comp | apply fr_comp2 | apply fr_items | apply fr_listN | apply fr_neg | apply fr_seq | apply fr_ret | apply fr_exp | apply fr_ifS | apply fr_asg | apply fr_par | apply fr_setO | apply fr_frz | apply fr_app | apply fr_ext | apply fr_for | apply fr_while | apply fr_aug | apply fr_callV | apply fr_lamcall | apply fr_newD | apply fr_setD | apply fr_dc | apply fr_put)
theorem fr_is_clear : FrF m_is_clear := fr_def (by with_reducible repeat' first | exact fr_var | exact fr_pk | exact fr_c | exact fr_nil | exact fr_no | exact fr_yes | exact fr_skip | exact fr_stop | exact fr_retN | exact fr_pop | exact fr_d0 | exact fr_crash_in | exact fr_need_book | apply fr_bin | apply fr_tst | apply fr_chain | apply fr_andT | apply fr_orT | apply fr_notT | apply fr_if | apply fr_andV | apply fr_orV | apply fr_notV | apply fr_cons | apply fr_tup | apply fr_lst | apply fr_part | apply fr_sl | apply fr_blt | apply fr_isi | apply fr_fn | apply fr_itL | apply fr_itT | apply fr_itA | apply fr_rg1 | apply fr_rg2 | apply fr_lstI | apply fr_tupI | apply fr_enT | apply fr_enL | apply fr_zip | apply fr_new | apply fr_comp | apply fr_comp2 | apply fr_items | apply fr_listN | apply fr_neg | apply fr_seq | apply fr_ret | apply fr_exp | apply fr_ifS | apply fr_asg | apply fr_par | apply fr_setO | apply fr_frz | apply fr_app | apply fr_ext | apply fr_for | apply fr_while | apply fr_aug | apply fr_callV | apply fr_lamcall | apply fr_newD | apply fr_setD | apply fr_dc | apply fr_put)
theorem fr_fewest_steps : FrF m_fewest_steps := fr_def (by with_reducible repeat' first | exact fr_var | exact fr_pk | exact fr_c | exact fr_nil | exact fr_no | exact fr_yes | exact fr_skip | exact fr_stop | exact fr_retN | exact fr_pop | exact fr_d0 | exact fr_crash_in | exact fr_need_book | apply fr_bin | apply fr_tst | apply fr_chain | apply fr_andT | apply fr_orT | apply fr_notT | apply fr_if | apply fr_andV | apply fr_orV | apply fr_notV | apply fr_cons | apply fr_tup | apply fr_lst | apply fr_part | apply fr_sl | apply fr_blt | apply fr_isi | apply fr_fn | apply fr_itL | apply fr_itT | apply fr_itA | apply fr_rg1 | apply fr_rg2 | apply fr_lstI | apply fr_tupI | apply fr_enT | apply fr_enL | apply fr_zip | apply fr_new | apply fr_comp | apply fr_comp2 | apply fr_items | apply fr_listN | apply fr_neg | apply fr_seq | apply fr_ret | apply fr_exp | apply fr_ifS | apply fr_asg | apply fr_par | apply fr_setO | apply fr_frz | apply fr_app | apply fr_ext | apply fr_for | apply fr_while | apply fr_aug | apply fr_callV | apply fr_lamcall | apply fr_newD | apply fr_setD | apply fr_dc | apply fr_put)
theorem fr_clear_paper : FrF m_clear_paper := fr_def (by with_reducible repeat' first | exact fr_var | exact fr_pk | exact fr_c | exact fr_nil | exact fr_no | exact fr_yes | exact fr_skip | exact fr_stop | exact fr_retN | exact fr_pop | exact fr_d0 | exact fr_crash_paper | exact fr_need_book | exact fr_coming_in | apply fr_bin | apply fr_tst | apply fr_chain | apply fr_andT | apply fr_orT | apply fr_notT | apply fr_if | apply fr_andV | apply fr_orV | apply fr_notV | apply fr_cons | apply fr_tup | apply fr_lst | apply fr_part | apply fr_sl | apply fr_blt | apply fr_isi | apply fr_fn | apply fr_itL | apply fr_itT | apply fr_itA | apply fr_rg1 | apply fr_rg2 | apply fr_lstI | apply fr_tupI | apply fr_enT | apply fr_enL | apply fr_zip | apply fr_new | apply fr_comp | apply fr_comp2 | apply fr_items | apply fr_listN | apply fr_neg | apply fr_seq | apply fr_ret | apply fr_exp | apply fr_ifS | apply fr_asg | apply fr_par | apply fr_setO | apply fr_frz | apply fr_app | apply fr_ext | apply fr_for | apply fr_while | apply fr_aug | apply fr_callV | apply fr_lamcall | apply fr_newD | apply fr_setD | apply fr_dc | apply fr_put)
theorem fr_check_clear : FrF m_check_clear := fr_def (by with_reducible repeat' first | exact fr_var | exact fr_pk | exact fr_c | exact fr_nil | exact fr_no | exact fr_yes | exact fr_skip | exact fr_stop | exact fr_retN | exact fr_pop | exact fr_d0 | exact fr_need_book | exact fr_need_form | exact fr_check_crash | exact fr_is_closed | apply fr_bin | apply fr_tst | apply fr_chain | apply fr_andT | apply fr_orT | apply fr_notT | apply fr_if | apply fr_andV | apply fr_orV | apply fr_notV | apply fr_cons | apply fr_tup | apply fr_lst | apply fr_part | apply fr_sl | apply fr_blt | apply fr_isi | apply fr_fn | apply fr_itL | apply fr_itT | apply fr_itA | apply fr_rg1 | apply fr_rg2 | apply fr_lstI | apply fr_tupI | apply fr_enT | apply fr_enL | apply fr_zip | apply fr_new | apply fr_comp | apply fr_comp2 | apply fr_items | apply fr_listN | apply fr_neg | apply fr_seq | apply fr_ret | apply fr_exp | apply fr_ifS | apply fr_asg | apply fr_par | apply fr_setO | apply fr_frz | apply fr_app | apply fr_ext | apply fr_for | apply fr_while | apply fr_aug | apply fr_callV | apply fr_lamcall | apply fr_newD | apply fr_setD | apply fr_dc | apply fr_put)
theorem ok_all {P : Program} {w : World} {K : PySem.W.Frag} {mg : Str → Option Value} {base : Heap} {Tb : List (Addr × Str)} {c_book_fault P_book_fault : Addr} (T : Tx mg) (A_is_whole : At K mg "is_whole" s_is_whole) (A_is_tuple_of : At K mg "is_tuple_of" s_is_tuple_of) (A_follows_in : At K mg "follows_in" s_follows_in) (A_far_in : At K mg "far_in" s_far_in) (A_aspect_in : At K mg "aspect_in" s_aspect_in) (A_standings_to : At K mg "standings_to" s_standings_to) (A_leads_by : At K mg "leads_by" s_leads_by) (A_is_start_by : At K mg "is_start_by" s_is_start_by) (A_moved : At K mg "moved" s_moved) (A__law_begun : At K mg "_law_begun" s__law_begun) (A__law_draw : At K mg "_law_draw" s__law_draw) (A__law_books : At K mg "_law_books" s__law_books) (A_is_choice : At K mg "is_choice" s_is_choice) (A_numbers_fault : At K mg "numbers_fault" s_numbers_fault) (A_followers : At K mg "followers" s_followers) (A_is_standing_in : At K mg "is_standing_in" s_is_standing_in) (A_aspect_seen : At K mg "aspect_seen" s_aspect_seen) (A_leads_in : At K mg "leads_in" s_leads_in) (A_is_start : At K mg "is_start" s_is_start) (A_starts_by : At K mg "starts_by" s_starts_by) (A_capped : At K mg "capped" s_capped) (A_exact_start : At K mg "exact_start" s_exact_start) (A_need_form : At K mg "need_form" s_need_form) (A_is_row : At K mg "is_row" s_is_row) (A_choices_in : At K mg "choices_in" s_choices_in) (A_starts_in : At K mg "starts_in" s_starts_in) (A_steps_in : At K mg "steps_in" s_steps_in) (A_first_fault : At K mg "first_fault" s_first_fault) (A_is_step_in : At K mg "is_step_in" s_is_step_in) (A_coming_in : At K mg "coming_in" s_coming_in) (A_crash_steps : At K mg "crash_steps" s_crash_steps) (A_is_closed : At K mg "is_closed" s_is_closed) (A_book_fault : AtC K mg "book_fault" s_book_fault c_book_fault) (TB_book_fault : LamX.TabB base mg c_book_fault P_book_fault) (hm_book_fault : (P_book_fault, ("book_fault.<locals>.<lambda>" : Str)) ∈ Tb) (hu_book_fault : ∀ p ∈ Tb, p.1 = P_book_fault → p.2 = ("book_fault.<locals>.<lambda>" : Str)) (A_crash_in : At K mg "crash_in" s_crash_in) (A_need_book : At K mg "need_book" s_need_book) (A_crash_paper : At K mg "crash_paper" s_crash_paper) (A_check_crash : At K mg "check_crash" s_check_crash) (A_is_clear : At K mg "is_clear" s_is_clear) (A_fewest_steps : At K mg "fewest_steps" s_fewest_steps) (A_clear_paper : At K mg "clear_paper" s_clear_paper) (A_check_clear : At K mg "check_clear" s_check_clear) {f : Addr} {fd : FuncData} (F : L2.Fun K "law" "law" s_law f fd) : FnOk P w K mg base (L2.CX P w) 9 f fd ["_law_script"] (spOf ⟨K, mg, Lt, Tb⟩ 1 m_law) := by
  have C_is_whole := ok_is_whole (P := P) (w := w) (base := base) (Tb := Tb) T A_is_whole
  have C_is_tuple_of := ok_is_tuple_of (P := P) (w := w) (base := base) (Tb := Tb) T A_is_tuple_of
  have C_follows_in := ok_follows_in (P := P) (w := w) (base := base) (Tb := Tb) T A_follows_in
  have C_far_in := ok_far_in (P := P) (w := w) (base := base) (Tb := Tb) T A_far_in
  have C_aspect_in := ok_aspect_in (P := P) (w := w) (base := base) (Tb := Tb) T A_aspect_in
  have C_standings_to := ok_standings_to (P := P) (w := w) (base := base) (Tb := Tb) T A_standings_to
  have C_leads_by := ok_leads_by (P := P) (w := w) (base := base) (Tb := Tb) T A_leads_by
  have C_is_start_by := ok_is_start_by (P := P) (w := w) (base := base) (Tb := Tb) T A_is_start_by
  have C_moved := ok_moved (P := P) (w := w) (base := base) (Tb := Tb) T A_moved
  have C__law_begun := ok__law_begun (P := P) (w := w) (base := base) (Tb := Tb) T A__law_begun
  have C__law_draw := ok__law_draw (P := P) (w := w) (base := base) (Tb := Tb) T A__law_draw
  have C__law_books := ok__law_books (P := P) (w := w) (base := base) (Tb := Tb) T A__law_books
  have C_is_choice := ok_is_choice (P := P) (w := w) (base := base) (Tb := Tb) T A_is_choice C_is_tuple_of C_is_whole
  have C_numbers_fault := ok_numbers_fault (P := P) (w := w) (base := base) (Tb := Tb) T A_numbers_fault C_is_whole
  have C_followers := ok_followers (P := P) (w := w) (base := base) (Tb := Tb) T A_followers C_follows_in
  have C_is_standing_in := ok_is_standing_in (P := P) (w := w) (base := base) (Tb := Tb) T A_is_standing_in C_is_tuple_of C_is_whole C_far_in
  have C_aspect_seen := ok_aspect_seen (P := P) (w := w) (base := base) (Tb := Tb) T A_aspect_seen C_aspect_in
  have C_leads_in := ok_leads_in (P := P) (w := w) (base := base) (Tb := Tb) T A_leads_in C_leads_by C_far_in
  have C_is_start := ok_is_start (P := P) (w := w) (base := base) (Tb := Tb) T A_is_start C_is_start_by C_far_in
  have C_starts_by := ok_starts_by (P := P) (w := w) (base := base) (Tb := Tb) T A_starts_by C_standings_to C_is_start_by
  have C_capped := ok_capped (P := P) (w := w) (base := base) (Tb := Tb) T A_capped C_far_in
  have C_exact_start := ok_exact_start (P := P) (w := w) (base := base) (Tb := Tb) T A_exact_start C_far_in
  have C_need_form := ok_need_form (P := P) (w := w) (base := base) (Tb := Tb) T A_need_form C_is_tuple_of C_is_whole
  have C_is_row := ok_is_row (P := P) (w := w) (base := base) (Tb := Tb) T A_is_row C_is_tuple_of C_is_choice C_follows_in
  have C_choices_in := ok_choices_in (P := P) (w := w) (base := base) (Tb := Tb) T A_choices_in C_aspect_seen
  have C_starts_in := ok_starts_in (P := P) (w := w) (base := base) (Tb := Tb) T A_starts_in C_starts_by C_far_in
  have C_steps_in := ok_steps_in (P := P) (w := w) (base := base) (Tb := Tb) T A_steps_in C_followers C_choices_in
  have LA := lam_all (P := P) (w := w) (base := base) (Tb := Tb) T C_is_row C_is_whole
  have C_first_fault := ok_first_fault (P := P) (w := w) (base := base) (Tb := Tb) T A_first_fault C_is_tuple_of LA
  have C_is_step_in := ok_is_step_in (P := P) (w := w) (base := base) (Tb := Tb) T A_is_step_in C_is_tuple_of C_is_whole C_steps_in
  have C_coming_in := ok_coming_in (P := P) (w := w) (base := base) (Tb := Tb) T A_coming_in C_starts_in C_steps_in C_leads_in
  have C_crash_steps := ok_crash_steps (P := P) (w := w) (base := base) (Tb := Tb) T A_crash_steps C_steps_in
  have C_is_closed := ok_is_closed (P := P) (w := w) (base := base) (Tb := Tb) T A_is_closed C_is_standing_in C_starts_in C_steps_in C_leads_in
  have C_book_fault := ok_book_fault (P := P) (w := w) (base := base) (Tb := Tb) T TB_book_fault hm_book_fault hu_book_fault A_book_fault C_is_tuple_of C_numbers_fault C_first_fault
  have C_crash_in := ok_crash_in (P := P) (w := w) (base := base) (Tb := Tb) T A_crash_in C_starts_in C_crash_steps C_steps_in C_leads_in
  have C_need_book := ok_need_book (P := P) (w := w) (base := base) (Tb := Tb) T A_need_book C_book_fault
  have C_crash_paper := ok_crash_paper (P := P) (w := w) (base := base) (Tb := Tb) T A_crash_paper C_crash_in C_exact_start
  have C_check_crash := ok_check_crash (P := P) (w := w) (base := base) (Tb := Tb) T A_check_crash C_is_standing_in C_capped C_is_start C_is_step_in C_moved C_crash_in
  have C_is_clear := ok_is_clear (P := P) (w := w) (base := base) (Tb := Tb) T A_is_clear C_crash_in C_need_book
  have C_fewest_steps := ok_fewest_steps (P := P) (w := w) (base := base) (Tb := Tb) T A_fewest_steps C_crash_in C_need_book
  have C_clear_paper := ok_clear_paper (P := P) (w := w) (base := base) (Tb := Tb) T A_clear_paper C_crash_paper C_need_book C_coming_in
  have C_check_clear := ok_check_clear (P := P) (w := w) (base := base) (Tb := Tb) T A_check_clear C_need_book C_need_form C_check_crash C_is_closed
  exact ok_law T F C__law_begun C__law_books C__law_draw C_is_clear C_fewest_steps C_clear_paper C_check_clear
theorem all_mk {l : PySem.W.OpenLaw} {w : World} {K : PySem.W.Frag} {h : Heap} {mg : Str → Option Value} {fa : Addr} {f_is_whole : Addr} {oc_is_whole kV_is_whole dc_is_whole pm_is_whole cd_is_whole ct_is_whole : Value} {od_is_whole an_is_whole : Option Addr} {sl_is_whole : Array (Option Value)} {f_is_tuple_of : Addr} {oc_is_tuple_of kV_is_tuple_of dc_is_tuple_of pm_is_tuple_of cd_is_tuple_of ct_is_tuple_of : Value} {od_is_tuple_of an_is_tuple_of : Option Addr} {sl_is_tuple_of : Array (Option Value)} {f_follows_in : Addr} {oc_follows_in kV_follows_in dc_follows_in pm_follows_in cd_follows_in ct_follows_in : Value} {od_follows_in an_follows_in : Option Addr} {sl_follows_in : Array (Option Value)} {f_far_in : Addr} {oc_far_in kV_far_in dc_far_in pm_far_in cd_far_in ct_far_in : Value} {od_far_in an_far_in : Option Addr} {sl_far_in : Array (Option Value)} {f_aspect_in : Addr} {oc_aspect_in kV_aspect_in dc_aspect_in pm_aspect_in cd_aspect_in ct_aspect_in : Value} {od_aspect_in an_aspect_in : Option Addr} {sl_aspect_in : Array (Option Value)} {f_standings_to : Addr} {oc_standings_to kV_standings_to dc_standings_to pm_standings_to cd_standings_to ct_standings_to : Value} {od_standings_to an_standings_to : Option Addr} {sl_standings_to : Array (Option Value)} {f_leads_by : Addr} {oc_leads_by kV_leads_by dc_leads_by pm_leads_by cd_leads_by ct_leads_by : Value} {od_leads_by an_leads_by : Option Addr} {sl_leads_by : Array (Option Value)} {f_is_start_by : Addr} {oc_is_start_by kV_is_start_by dc_is_start_by pm_is_start_by cd_is_start_by ct_is_start_by : Value} {od_is_start_by an_is_start_by : Option Addr} {sl_is_start_by : Array (Option Value)} {f_moved : Addr} {oc_moved kV_moved dc_moved pm_moved cd_moved ct_moved : Value} {od_moved an_moved : Option Addr} {sl_moved : Array (Option Value)} {f__law_begun : Addr} {oc__law_begun kV__law_begun dc__law_begun pm__law_begun cd__law_begun ct__law_begun : Value} {od__law_begun an__law_begun : Option Addr} {sl__law_begun : Array (Option Value)} {f__law_draw : Addr} {oc__law_draw kV__law_draw dc__law_draw pm__law_draw cd__law_draw ct__law_draw : Value} {od__law_draw an__law_draw : Option Addr} {sl__law_draw : Array (Option Value)} {f__law_books : Addr} {oc__law_books kV__law_books dc__law_books pm__law_books cd__law_books ct__law_books : Value} {od__law_books an__law_books : Option Addr} {sl__law_books : Array (Option Value)} {f_is_choice : Addr} {oc_is_choice kV_is_choice dc_is_choice pm_is_choice cd_is_choice ct_is_choice : Value} {od_is_choice an_is_choice : Option Addr} {sl_is_choice : Array (Option Value)} {f_numbers_fault : Addr} {oc_numbers_fault kV_numbers_fault dc_numbers_fault pm_numbers_fault cd_numbers_fault ct_numbers_fault : Value} {od_numbers_fault an_numbers_fault : Option Addr} {sl_numbers_fault : Array (Option Value)} {f_followers : Addr} {oc_followers kV_followers dc_followers pm_followers cd_followers ct_followers : Value} {od_followers an_followers : Option Addr} {sl_followers : Array (Option Value)} {f_is_standing_in : Addr} {oc_is_standing_in kV_is_standing_in dc_is_standing_in pm_is_standing_in cd_is_standing_in ct_is_standing_in : Value} {od_is_standing_in an_is_standing_in : Option Addr} {sl_is_standing_in : Array (Option Value)} {f_aspect_seen : Addr} {oc_aspect_seen kV_aspect_seen dc_aspect_seen pm_aspect_seen cd_aspect_seen ct_aspect_seen : Value} {od_aspect_seen an_aspect_seen : Option Addr} {sl_aspect_seen : Array (Option Value)} {f_leads_in : Addr} {oc_leads_in kV_leads_in dc_leads_in pm_leads_in cd_leads_in ct_leads_in : Value} {od_leads_in an_leads_in : Option Addr} {sl_leads_in : Array (Option Value)} {f_is_start : Addr} {oc_is_start kV_is_start dc_is_start pm_is_start cd_is_start ct_is_start : Value} {od_is_start an_is_start : Option Addr} {sl_is_start : Array (Option Value)} {f_starts_by : Addr} {oc_starts_by kV_starts_by dc_starts_by pm_starts_by cd_starts_by ct_starts_by : Value} {od_starts_by an_starts_by : Option Addr} {sl_starts_by : Array (Option Value)} {f_capped : Addr} {oc_capped kV_capped dc_capped pm_capped cd_capped ct_capped : Value} {od_capped an_capped : Option Addr} {sl_capped : Array (Option Value)} {f_exact_start : Addr} {oc_exact_start kV_exact_start dc_exact_start pm_exact_start cd_exact_start ct_exact_start : Value} {od_exact_start an_exact_start : Option Addr} {sl_exact_start : Array (Option Value)} {f_need_form : Addr} {oc_need_form kV_need_form dc_need_form pm_need_form cd_need_form ct_need_form : Value} {od_need_form an_need_form : Option Addr} {sl_need_form : Array (Option Value)} {f_is_row : Addr} {oc_is_row kV_is_row dc_is_row pm_is_row cd_is_row ct_is_row : Value} {od_is_row an_is_row : Option Addr} {sl_is_row : Array (Option Value)} {f_choices_in : Addr} {oc_choices_in kV_choices_in dc_choices_in pm_choices_in cd_choices_in ct_choices_in : Value} {od_choices_in an_choices_in : Option Addr} {sl_choices_in : Array (Option Value)} {f_starts_in : Addr} {oc_starts_in kV_starts_in dc_starts_in pm_starts_in cd_starts_in ct_starts_in : Value} {od_starts_in an_starts_in : Option Addr} {sl_starts_in : Array (Option Value)} {f_steps_in : Addr} {oc_steps_in kV_steps_in dc_steps_in pm_steps_in cd_steps_in ct_steps_in : Value} {od_steps_in an_steps_in : Option Addr} {sl_steps_in : Array (Option Value)} {f_first_fault : Addr} {oc_first_fault kV_first_fault dc_first_fault pm_first_fault cd_first_fault ct_first_fault : Value} {od_first_fault an_first_fault : Option Addr} {sl_first_fault : Array (Option Value)} {f_is_step_in : Addr} {oc_is_step_in kV_is_step_in dc_is_step_in pm_is_step_in cd_is_step_in ct_is_step_in : Value} {od_is_step_in an_is_step_in : Option Addr} {sl_is_step_in : Array (Option Value)} {f_coming_in : Addr} {oc_coming_in kV_coming_in dc_coming_in pm_coming_in cd_coming_in ct_coming_in : Value} {od_coming_in an_coming_in : Option Addr} {sl_coming_in : Array (Option Value)} {f_crash_steps : Addr} {oc_crash_steps kV_crash_steps dc_crash_steps pm_crash_steps cd_crash_steps ct_crash_steps : Value} {od_crash_steps an_crash_steps : Option Addr} {sl_crash_steps : Array (Option Value)} {f_is_closed : Addr} {oc_is_closed kV_is_closed dc_is_closed pm_is_closed cd_is_closed ct_is_closed : Value} {od_is_closed an_is_closed : Option Addr} {sl_is_closed : Array (Option Value)} {f_book_fault : Addr} {oc_book_fault kV_book_fault dc_book_fault pm_book_fault  ct_book_fault : Value} {od_book_fault an_book_fault : Option Addr} {sl_book_fault : Array (Option Value)} {c_book_fault P_book_fault : Addr} {uc_book_fault : Value} {ud_book_fault : Option Addr} {uv_book_fault : Array Value} {us_book_fault : Array (Option Value)} {f_crash_in : Addr} {oc_crash_in kV_crash_in dc_crash_in pm_crash_in cd_crash_in ct_crash_in : Value} {od_crash_in an_crash_in : Option Addr} {sl_crash_in : Array (Option Value)} {f_need_book : Addr} {oc_need_book kV_need_book dc_need_book pm_need_book cd_need_book ct_need_book : Value} {od_need_book an_need_book : Option Addr} {sl_need_book : Array (Option Value)} {f_crash_paper : Addr} {oc_crash_paper kV_crash_paper dc_crash_paper pm_crash_paper cd_crash_paper ct_crash_paper : Value} {od_crash_paper an_crash_paper : Option Addr} {sl_crash_paper : Array (Option Value)} {f_check_crash : Addr} {oc_check_crash kV_check_crash dc_check_crash pm_check_crash cd_check_crash ct_check_crash : Value} {od_check_crash an_check_crash : Option Addr} {sl_check_crash : Array (Option Value)} {f_is_clear : Addr} {oc_is_clear kV_is_clear dc_is_clear pm_is_clear cd_is_clear ct_is_clear : Value} {od_is_clear an_is_clear : Option Addr} {sl_is_clear : Array (Option Value)} {f_fewest_steps : Addr} {oc_fewest_steps kV_fewest_steps dc_fewest_steps pm_fewest_steps cd_fewest_steps ct_fewest_steps : Value} {od_fewest_steps an_fewest_steps : Option Addr} {sl_fewest_steps : Array (Option Value)} {f_clear_paper : Addr} {oc_clear_paper kV_clear_paper dc_clear_paper pm_clear_paper cd_clear_paper ct_clear_paper : Value} {od_clear_paper an_clear_paper : Option Addr} {sl_clear_paper : Array (Option Value)} {f_check_clear : Addr} {oc_check_clear kV_check_clear dc_check_clear pm_check_clear cd_check_clear ct_check_clear : Value} {od_check_clear an_check_clear : Option Addr} {sl_check_clear : Array (Option Value)} {f_law : Addr} {oc_law kV_law dc_law pm_law cd_law ct_law : Value} {od_law an_law : Option Addr} {sl_law : Array (Option Value)} {q_LOOKS : Tok} {q_TOP : Tok} {q_LEAST : Tok} {q_MOST_TOP : Tok} {q_MOST_LEAST : Tok} {q_DOWN : Tok} {q_UP : Tok} {q_LATE : Tok} {q_CLEAR : Tok} {q_CRASH : Tok} {q_RULES : Tok} {q_PARTS : Tok} {q_MOST_ROWS : Tok} {q_MOST_LOOKS : Tok}
    (X : K.In h) (G : h.Ns mainGlobals mg) (hfa : mg "law" = some (.ref fa)) (tabs : ∀ y ∈ (["book_fault"] : List Str), ∀ c P, PySem.W.tabIn K y = some (c, P) → PySem.W.CodeHd h c P ∧ h.get? P = some (PySem.W.tabObj #[]))
    (a_is_whole : PySem.W.nsIn K mainGlobals "is_whole" = some (some (.ref f_is_whole)))
    (l_is_whole : K.lookup f_is_whole = some ⟨oc_is_whole, od_is_whole, .func (PySem.W.fnOf "is_whole" "is_whole" (defArgs s_is_whole) (defBody s_is_whole) (defScope s_is_whole) .none kV_is_whole dc_is_whole pm_is_whole an_is_whole cd_is_whole ct_is_whole), sl_is_whole⟩)
    (e_is_whole : PySem.W.codeIn K cd_is_whole "is_whole" = true)
    (k_is_whole : PySem.W.keepIn K (.ref f_is_whole) = true)
    (a_is_tuple_of : PySem.W.nsIn K mainGlobals "is_tuple_of" = some (some (.ref f_is_tuple_of)))
    (l_is_tuple_of : K.lookup f_is_tuple_of = some ⟨oc_is_tuple_of, od_is_tuple_of, .func (PySem.W.fnOf "is_tuple_of" "is_tuple_of" (defArgs s_is_tuple_of) (defBody s_is_tuple_of) (defScope s_is_tuple_of) .none kV_is_tuple_of dc_is_tuple_of pm_is_tuple_of an_is_tuple_of cd_is_tuple_of ct_is_tuple_of), sl_is_tuple_of⟩)
    (e_is_tuple_of : PySem.W.codeIn K cd_is_tuple_of "is_tuple_of" = true)
    (k_is_tuple_of : PySem.W.keepIn K (.ref f_is_tuple_of) = true)
    (a_follows_in : PySem.W.nsIn K mainGlobals "follows_in" = some (some (.ref f_follows_in)))
    (l_follows_in : K.lookup f_follows_in = some ⟨oc_follows_in, od_follows_in, .func (PySem.W.fnOf "follows_in" "follows_in" (defArgs s_follows_in) (defBody s_follows_in) (defScope s_follows_in) .none kV_follows_in dc_follows_in pm_follows_in an_follows_in cd_follows_in ct_follows_in), sl_follows_in⟩)
    (e_follows_in : PySem.W.codeIn K cd_follows_in "follows_in" = true)
    (k_follows_in : PySem.W.keepIn K (.ref f_follows_in) = true)
    (a_far_in : PySem.W.nsIn K mainGlobals "far_in" = some (some (.ref f_far_in)))
    (l_far_in : K.lookup f_far_in = some ⟨oc_far_in, od_far_in, .func (PySem.W.fnOf "far_in" "far_in" (defArgs s_far_in) (defBody s_far_in) (defScope s_far_in) .none kV_far_in dc_far_in pm_far_in an_far_in cd_far_in ct_far_in), sl_far_in⟩)
    (e_far_in : PySem.W.codeIn K cd_far_in "far_in" = true)
    (k_far_in : PySem.W.keepIn K (.ref f_far_in) = true)
    (a_aspect_in : PySem.W.nsIn K mainGlobals "aspect_in" = some (some (.ref f_aspect_in)))
    (l_aspect_in : K.lookup f_aspect_in = some ⟨oc_aspect_in, od_aspect_in, .func (PySem.W.fnOf "aspect_in" "aspect_in" (defArgs s_aspect_in) (defBody s_aspect_in) (defScope s_aspect_in) .none kV_aspect_in dc_aspect_in pm_aspect_in an_aspect_in cd_aspect_in ct_aspect_in), sl_aspect_in⟩)
    (e_aspect_in : PySem.W.codeIn K cd_aspect_in "aspect_in" = true)
    (k_aspect_in : PySem.W.keepIn K (.ref f_aspect_in) = true)
    (a_standings_to : PySem.W.nsIn K mainGlobals "standings_to" = some (some (.ref f_standings_to)))
    (l_standings_to : K.lookup f_standings_to = some ⟨oc_standings_to, od_standings_to, .func (PySem.W.fnOf "standings_to" "standings_to" (defArgs s_standings_to) (defBody s_standings_to) (defScope s_standings_to) .none kV_standings_to dc_standings_to pm_standings_to an_standings_to cd_standings_to ct_standings_to), sl_standings_to⟩)
    (e_standings_to : PySem.W.codeIn K cd_standings_to "standings_to" = true)
    (k_standings_to : PySem.W.keepIn K (.ref f_standings_to) = true)
    (a_leads_by : PySem.W.nsIn K mainGlobals "leads_by" = some (some (.ref f_leads_by)))
    (l_leads_by : K.lookup f_leads_by = some ⟨oc_leads_by, od_leads_by, .func (PySem.W.fnOf "leads_by" "leads_by" (defArgs s_leads_by) (defBody s_leads_by) (defScope s_leads_by) .none kV_leads_by dc_leads_by pm_leads_by an_leads_by cd_leads_by ct_leads_by), sl_leads_by⟩)
    (e_leads_by : PySem.W.codeIn K cd_leads_by "leads_by" = true)
    (k_leads_by : PySem.W.keepIn K (.ref f_leads_by) = true)
    (a_is_start_by : PySem.W.nsIn K mainGlobals "is_start_by" = some (some (.ref f_is_start_by)))
    (l_is_start_by : K.lookup f_is_start_by = some ⟨oc_is_start_by, od_is_start_by, .func (PySem.W.fnOf "is_start_by" "is_start_by" (defArgs s_is_start_by) (defBody s_is_start_by) (defScope s_is_start_by) .none kV_is_start_by dc_is_start_by pm_is_start_by an_is_start_by cd_is_start_by ct_is_start_by), sl_is_start_by⟩)
    (e_is_start_by : PySem.W.codeIn K cd_is_start_by "is_start_by" = true)
    (k_is_start_by : PySem.W.keepIn K (.ref f_is_start_by) = true)
    (a_moved : PySem.W.nsIn K mainGlobals "moved" = some (some (.ref f_moved)))
    (l_moved : K.lookup f_moved = some ⟨oc_moved, od_moved, .func (PySem.W.fnOf "moved" "moved" (defArgs s_moved) (defBody s_moved) (defScope s_moved) .none kV_moved dc_moved pm_moved an_moved cd_moved ct_moved), sl_moved⟩)
    (e_moved : PySem.W.codeIn K cd_moved "moved" = true)
    (k_moved : PySem.W.keepIn K (.ref f_moved) = true)
    (a__law_begun : PySem.W.nsIn K mainGlobals "_law_begun" = some (some (.ref f__law_begun)))
    (l__law_begun : K.lookup f__law_begun = some ⟨oc__law_begun, od__law_begun, .func (PySem.W.fnOf "_law_begun" "_law_begun" (defArgs s__law_begun) (defBody s__law_begun) (defScope s__law_begun) .none kV__law_begun dc__law_begun pm__law_begun an__law_begun cd__law_begun ct__law_begun), sl__law_begun⟩)
    (e__law_begun : PySem.W.codeIn K cd__law_begun "_law_begun" = true)
    (k__law_begun : PySem.W.keepIn K (.ref f__law_begun) = true)
    (a__law_draw : PySem.W.nsIn K mainGlobals "_law_draw" = some (some (.ref f__law_draw)))
    (l__law_draw : K.lookup f__law_draw = some ⟨oc__law_draw, od__law_draw, .func (PySem.W.fnOf "_law_draw" "_law_draw" (defArgs s__law_draw) (defBody s__law_draw) (defScope s__law_draw) .none kV__law_draw dc__law_draw pm__law_draw an__law_draw cd__law_draw ct__law_draw), sl__law_draw⟩)
    (e__law_draw : PySem.W.codeIn K cd__law_draw "_law_draw" = true)
    (k__law_draw : PySem.W.keepIn K (.ref f__law_draw) = true)
    (a__law_books : PySem.W.nsIn K mainGlobals "_law_books" = some (some (.ref f__law_books)))
    (l__law_books : K.lookup f__law_books = some ⟨oc__law_books, od__law_books, .func (PySem.W.fnOf "_law_books" "_law_books" (defArgs s__law_books) (defBody s__law_books) (defScope s__law_books) .none kV__law_books dc__law_books pm__law_books an__law_books cd__law_books ct__law_books), sl__law_books⟩)
    (e__law_books : PySem.W.codeIn K cd__law_books "_law_books" = true)
    (k__law_books : PySem.W.keepIn K (.ref f__law_books) = true)
    (a_is_choice : PySem.W.nsIn K mainGlobals "is_choice" = some (some (.ref f_is_choice)))
    (l_is_choice : K.lookup f_is_choice = some ⟨oc_is_choice, od_is_choice, .func (PySem.W.fnOf "is_choice" "is_choice" (defArgs s_is_choice) (defBody s_is_choice) (defScope s_is_choice) .none kV_is_choice dc_is_choice pm_is_choice an_is_choice cd_is_choice ct_is_choice), sl_is_choice⟩)
    (e_is_choice : PySem.W.codeIn K cd_is_choice "is_choice" = true)
    (k_is_choice : PySem.W.keepIn K (.ref f_is_choice) = true)
    (a_numbers_fault : PySem.W.nsIn K mainGlobals "numbers_fault" = some (some (.ref f_numbers_fault)))
    (l_numbers_fault : K.lookup f_numbers_fault = some ⟨oc_numbers_fault, od_numbers_fault, .func (PySem.W.fnOf "numbers_fault" "numbers_fault" (defArgs s_numbers_fault) (defBody s_numbers_fault) (defScope s_numbers_fault) .none kV_numbers_fault dc_numbers_fault pm_numbers_fault an_numbers_fault cd_numbers_fault ct_numbers_fault), sl_numbers_fault⟩)
    (e_numbers_fault : PySem.W.codeIn K cd_numbers_fault "numbers_fault" = true)
    (k_numbers_fault : PySem.W.keepIn K (.ref f_numbers_fault) = true)
    (a_followers : PySem.W.nsIn K mainGlobals "followers" = some (some (.ref f_followers)))
    (l_followers : K.lookup f_followers = some ⟨oc_followers, od_followers, .func (PySem.W.fnOf "followers" "followers" (defArgs s_followers) (defBody s_followers) (defScope s_followers) .none kV_followers dc_followers pm_followers an_followers cd_followers ct_followers), sl_followers⟩)
    (e_followers : PySem.W.codeIn K cd_followers "followers" = true)
    (k_followers : PySem.W.keepIn K (.ref f_followers) = true)
    (a_is_standing_in : PySem.W.nsIn K mainGlobals "is_standing_in" = some (some (.ref f_is_standing_in)))
    (l_is_standing_in : K.lookup f_is_standing_in = some ⟨oc_is_standing_in, od_is_standing_in, .func (PySem.W.fnOf "is_standing_in" "is_standing_in" (defArgs s_is_standing_in) (defBody s_is_standing_in) (defScope s_is_standing_in) .none kV_is_standing_in dc_is_standing_in pm_is_standing_in an_is_standing_in cd_is_standing_in ct_is_standing_in), sl_is_standing_in⟩)
    (e_is_standing_in : PySem.W.codeIn K cd_is_standing_in "is_standing_in" = true)
    (k_is_standing_in : PySem.W.keepIn K (.ref f_is_standing_in) = true)
    (a_aspect_seen : PySem.W.nsIn K mainGlobals "aspect_seen" = some (some (.ref f_aspect_seen)))
    (l_aspect_seen : K.lookup f_aspect_seen = some ⟨oc_aspect_seen, od_aspect_seen, .func (PySem.W.fnOf "aspect_seen" "aspect_seen" (defArgs s_aspect_seen) (defBody s_aspect_seen) (defScope s_aspect_seen) .none kV_aspect_seen dc_aspect_seen pm_aspect_seen an_aspect_seen cd_aspect_seen ct_aspect_seen), sl_aspect_seen⟩)
    (e_aspect_seen : PySem.W.codeIn K cd_aspect_seen "aspect_seen" = true)
    (k_aspect_seen : PySem.W.keepIn K (.ref f_aspect_seen) = true)
    (a_leads_in : PySem.W.nsIn K mainGlobals "leads_in" = some (some (.ref f_leads_in)))
    (l_leads_in : K.lookup f_leads_in = some ⟨oc_leads_in, od_leads_in, .func (PySem.W.fnOf "leads_in" "leads_in" (defArgs s_leads_in) (defBody s_leads_in) (defScope s_leads_in) .none kV_leads_in dc_leads_in pm_leads_in an_leads_in cd_leads_in ct_leads_in), sl_leads_in⟩)
    (e_leads_in : PySem.W.codeIn K cd_leads_in "leads_in" = true)
    (k_leads_in : PySem.W.keepIn K (.ref f_leads_in) = true)
    (a_is_start : PySem.W.nsIn K mainGlobals "is_start" = some (some (.ref f_is_start)))
    (l_is_start : K.lookup f_is_start = some ⟨oc_is_start, od_is_start, .func (PySem.W.fnOf "is_start" "is_start" (defArgs s_is_start) (defBody s_is_start) (defScope s_is_start) .none kV_is_start dc_is_start pm_is_start an_is_start cd_is_start ct_is_start), sl_is_start⟩)
    (e_is_start : PySem.W.codeIn K cd_is_start "is_start" = true)
    (k_is_start : PySem.W.keepIn K (.ref f_is_start) = true)
    (a_starts_by : PySem.W.nsIn K mainGlobals "starts_by" = some (some (.ref f_starts_by)))
    (l_starts_by : K.lookup f_starts_by = some ⟨oc_starts_by, od_starts_by, .func (PySem.W.fnOf "starts_by" "starts_by" (defArgs s_starts_by) (defBody s_starts_by) (defScope s_starts_by) .none kV_starts_by dc_starts_by pm_starts_by an_starts_by cd_starts_by ct_starts_by), sl_starts_by⟩)
    (e_starts_by : PySem.W.codeIn K cd_starts_by "starts_by" = true)
    (k_starts_by : PySem.W.keepIn K (.ref f_starts_by) = true)
    (a_capped : PySem.W.nsIn K mainGlobals "capped" = some (some (.ref f_capped)))
    (l_capped : K.lookup f_capped = some ⟨oc_capped, od_capped, .func (PySem.W.fnOf "capped" "capped" (defArgs s_capped) (defBody s_capped) (defScope s_capped) .none kV_capped dc_capped pm_capped an_capped cd_capped ct_capped), sl_capped⟩)
    (e_capped : PySem.W.codeIn K cd_capped "capped" = true)
    (k_capped : PySem.W.keepIn K (.ref f_capped) = true)
    (a_exact_start : PySem.W.nsIn K mainGlobals "exact_start" = some (some (.ref f_exact_start)))
    (l_exact_start : K.lookup f_exact_start = some ⟨oc_exact_start, od_exact_start, .func (PySem.W.fnOf "exact_start" "exact_start" (defArgs s_exact_start) (defBody s_exact_start) (defScope s_exact_start) .none kV_exact_start dc_exact_start pm_exact_start an_exact_start cd_exact_start ct_exact_start), sl_exact_start⟩)
    (e_exact_start : PySem.W.codeIn K cd_exact_start "exact_start" = true)
    (k_exact_start : PySem.W.keepIn K (.ref f_exact_start) = true)
    (a_need_form : PySem.W.nsIn K mainGlobals "need_form" = some (some (.ref f_need_form)))
    (l_need_form : K.lookup f_need_form = some ⟨oc_need_form, od_need_form, .func (PySem.W.fnOf "need_form" "need_form" (defArgs s_need_form) (defBody s_need_form) (defScope s_need_form) .none kV_need_form dc_need_form pm_need_form an_need_form cd_need_form ct_need_form), sl_need_form⟩)
    (e_need_form : PySem.W.codeIn K cd_need_form "need_form" = true)
    (k_need_form : PySem.W.keepIn K (.ref f_need_form) = true)
    (a_is_row : PySem.W.nsIn K mainGlobals "is_row" = some (some (.ref f_is_row)))
    (l_is_row : K.lookup f_is_row = some ⟨oc_is_row, od_is_row, .func (PySem.W.fnOf "is_row" "is_row" (defArgs s_is_row) (defBody s_is_row) (defScope s_is_row) .none kV_is_row dc_is_row pm_is_row an_is_row cd_is_row ct_is_row), sl_is_row⟩)
    (e_is_row : PySem.W.codeIn K cd_is_row "is_row" = true)
    (k_is_row : PySem.W.keepIn K (.ref f_is_row) = true)
    (a_choices_in : PySem.W.nsIn K mainGlobals "choices_in" = some (some (.ref f_choices_in)))
    (l_choices_in : K.lookup f_choices_in = some ⟨oc_choices_in, od_choices_in, .func (PySem.W.fnOf "choices_in" "choices_in" (defArgs s_choices_in) (defBody s_choices_in) (defScope s_choices_in) .none kV_choices_in dc_choices_in pm_choices_in an_choices_in cd_choices_in ct_choices_in), sl_choices_in⟩)
    (e_choices_in : PySem.W.codeIn K cd_choices_in "choices_in" = true)
    (k_choices_in : PySem.W.keepIn K (.ref f_choices_in) = true)
    (a_starts_in : PySem.W.nsIn K mainGlobals "starts_in" = some (some (.ref f_starts_in)))
    (l_starts_in : K.lookup f_starts_in = some ⟨oc_starts_in, od_starts_in, .func (PySem.W.fnOf "starts_in" "starts_in" (defArgs s_starts_in) (defBody s_starts_in) (defScope s_starts_in) .none kV_starts_in dc_starts_in pm_starts_in an_starts_in cd_starts_in ct_starts_in), sl_starts_in⟩)
    (e_starts_in : PySem.W.codeIn K cd_starts_in "starts_in" = true)
    (k_starts_in : PySem.W.keepIn K (.ref f_starts_in) = true)
    (a_steps_in : PySem.W.nsIn K mainGlobals "steps_in" = some (some (.ref f_steps_in)))
    (l_steps_in : K.lookup f_steps_in = some ⟨oc_steps_in, od_steps_in, .func (PySem.W.fnOf "steps_in" "steps_in" (defArgs s_steps_in) (defBody s_steps_in) (defScope s_steps_in) .none kV_steps_in dc_steps_in pm_steps_in an_steps_in cd_steps_in ct_steps_in), sl_steps_in⟩)
    (e_steps_in : PySem.W.codeIn K cd_steps_in "steps_in" = true)
    (k_steps_in : PySem.W.keepIn K (.ref f_steps_in) = true)
    (a_first_fault : PySem.W.nsIn K mainGlobals "first_fault" = some (some (.ref f_first_fault)))
    (l_first_fault : K.lookup f_first_fault = some ⟨oc_first_fault, od_first_fault, .func (PySem.W.fnOf "first_fault" "first_fault" (defArgs s_first_fault) (defBody s_first_fault) (defScope s_first_fault) .none kV_first_fault dc_first_fault pm_first_fault an_first_fault cd_first_fault ct_first_fault), sl_first_fault⟩)
    (e_first_fault : PySem.W.codeIn K cd_first_fault "first_fault" = true)
    (k_first_fault : PySem.W.keepIn K (.ref f_first_fault) = true)
    (a_is_step_in : PySem.W.nsIn K mainGlobals "is_step_in" = some (some (.ref f_is_step_in)))
    (l_is_step_in : K.lookup f_is_step_in = some ⟨oc_is_step_in, od_is_step_in, .func (PySem.W.fnOf "is_step_in" "is_step_in" (defArgs s_is_step_in) (defBody s_is_step_in) (defScope s_is_step_in) .none kV_is_step_in dc_is_step_in pm_is_step_in an_is_step_in cd_is_step_in ct_is_step_in), sl_is_step_in⟩)
    (e_is_step_in : PySem.W.codeIn K cd_is_step_in "is_step_in" = true)
    (k_is_step_in : PySem.W.keepIn K (.ref f_is_step_in) = true)
    (a_coming_in : PySem.W.nsIn K mainGlobals "coming_in" = some (some (.ref f_coming_in)))
    (l_coming_in : K.lookup f_coming_in = some ⟨oc_coming_in, od_coming_in, .func (PySem.W.fnOf "coming_in" "coming_in" (defArgs s_coming_in) (defBody s_coming_in) (defScope s_coming_in) .none kV_coming_in dc_coming_in pm_coming_in an_coming_in cd_coming_in ct_coming_in), sl_coming_in⟩)
    (e_coming_in : PySem.W.codeIn K cd_coming_in "coming_in" = true)
    (k_coming_in : PySem.W.keepIn K (.ref f_coming_in) = true)
    (a_crash_steps : PySem.W.nsIn K mainGlobals "crash_steps" = some (some (.ref f_crash_steps)))
    (l_crash_steps : K.lookup f_crash_steps = some ⟨oc_crash_steps, od_crash_steps, .func (PySem.W.fnOf "crash_steps" "crash_steps" (defArgs s_crash_steps) (defBody s_crash_steps) (defScope s_crash_steps) .none kV_crash_steps dc_crash_steps pm_crash_steps an_crash_steps cd_crash_steps ct_crash_steps), sl_crash_steps⟩)
    (e_crash_steps : PySem.W.codeIn K cd_crash_steps "crash_steps" = true)
    (k_crash_steps : PySem.W.keepIn K (.ref f_crash_steps) = true)
    (a_is_closed : PySem.W.nsIn K mainGlobals "is_closed" = some (some (.ref f_is_closed)))
    (l_is_closed : K.lookup f_is_closed = some ⟨oc_is_closed, od_is_closed, .func (PySem.W.fnOf "is_closed" "is_closed" (defArgs s_is_closed) (defBody s_is_closed) (defScope s_is_closed) .none kV_is_closed dc_is_closed pm_is_closed an_is_closed cd_is_closed ct_is_closed), sl_is_closed⟩)
    (e_is_closed : PySem.W.codeIn K cd_is_closed "is_closed" = true)
    (k_is_closed : PySem.W.keepIn K (.ref f_is_closed) = true)
    (a_book_fault : PySem.W.nsIn K mainGlobals "book_fault" = some (some (.ref f_book_fault)))
    (l_book_fault : K.lookup f_book_fault = some ⟨oc_book_fault, od_book_fault, .func (PySem.W.fnOf "book_fault" "book_fault" (defArgs s_book_fault) (defBody s_book_fault) (defScope s_book_fault) .none kV_book_fault dc_book_fault pm_book_fault an_book_fault (.ref c_book_fault) ct_book_fault), sl_book_fault⟩)
    (e_book_fault : PySem.W.codeIn K (.ref c_book_fault) "book_fault" = true)
    (k_book_fault : PySem.W.keepIn K (.ref f_book_fault) = true)
    (u_book_fault : K.lookup c_book_fault = some ⟨uc_book_fault, ud_book_fault, .fields uv_book_fault, us_book_fault⟩)
    (x_book_fault : uv_book_fault[11]? = some (.ref P_book_fault))
    (n_book_fault : K.lookup P_book_fault = none)
    (a_crash_in : PySem.W.nsIn K mainGlobals "crash_in" = some (some (.ref f_crash_in)))
    (l_crash_in : K.lookup f_crash_in = some ⟨oc_crash_in, od_crash_in, .func (PySem.W.fnOf "crash_in" "crash_in" (defArgs s_crash_in) (defBody s_crash_in) (defScope s_crash_in) .none kV_crash_in dc_crash_in pm_crash_in an_crash_in cd_crash_in ct_crash_in), sl_crash_in⟩)
    (e_crash_in : PySem.W.codeIn K cd_crash_in "crash_in" = true)
    (k_crash_in : PySem.W.keepIn K (.ref f_crash_in) = true)
    (a_need_book : PySem.W.nsIn K mainGlobals "need_book" = some (some (.ref f_need_book)))
    (l_need_book : K.lookup f_need_book = some ⟨oc_need_book, od_need_book, .func (PySem.W.fnOf "need_book" "need_book" (defArgs s_need_book) (defBody s_need_book) (defScope s_need_book) .none kV_need_book dc_need_book pm_need_book an_need_book cd_need_book ct_need_book), sl_need_book⟩)
    (e_need_book : PySem.W.codeIn K cd_need_book "need_book" = true)
    (k_need_book : PySem.W.keepIn K (.ref f_need_book) = true)
    (a_crash_paper : PySem.W.nsIn K mainGlobals "crash_paper" = some (some (.ref f_crash_paper)))
    (l_crash_paper : K.lookup f_crash_paper = some ⟨oc_crash_paper, od_crash_paper, .func (PySem.W.fnOf "crash_paper" "crash_paper" (defArgs s_crash_paper) (defBody s_crash_paper) (defScope s_crash_paper) .none kV_crash_paper dc_crash_paper pm_crash_paper an_crash_paper cd_crash_paper ct_crash_paper), sl_crash_paper⟩)
    (e_crash_paper : PySem.W.codeIn K cd_crash_paper "crash_paper" = true)
    (k_crash_paper : PySem.W.keepIn K (.ref f_crash_paper) = true)
    (a_check_crash : PySem.W.nsIn K mainGlobals "check_crash" = some (some (.ref f_check_crash)))
    (l_check_crash : K.lookup f_check_crash = some ⟨oc_check_crash, od_check_crash, .func (PySem.W.fnOf "check_crash" "check_crash" (defArgs s_check_crash) (defBody s_check_crash) (defScope s_check_crash) .none kV_check_crash dc_check_crash pm_check_crash an_check_crash cd_check_crash ct_check_crash), sl_check_crash⟩)
    (e_check_crash : PySem.W.codeIn K cd_check_crash "check_crash" = true)
    (k_check_crash : PySem.W.keepIn K (.ref f_check_crash) = true)
    (a_is_clear : PySem.W.nsIn K mainGlobals "is_clear" = some (some (.ref f_is_clear)))
    (l_is_clear : K.lookup f_is_clear = some ⟨oc_is_clear, od_is_clear, .func (PySem.W.fnOf "is_clear" "is_clear" (defArgs s_is_clear) (defBody s_is_clear) (defScope s_is_clear) .none kV_is_clear dc_is_clear pm_is_clear an_is_clear cd_is_clear ct_is_clear), sl_is_clear⟩)
    (e_is_clear : PySem.W.codeIn K cd_is_clear "is_clear" = true)
    (k_is_clear : PySem.W.keepIn K (.ref f_is_clear) = true)
    (a_fewest_steps : PySem.W.nsIn K mainGlobals "fewest_steps" = some (some (.ref f_fewest_steps)))
    (l_fewest_steps : K.lookup f_fewest_steps = some ⟨oc_fewest_steps, od_fewest_steps, .func (PySem.W.fnOf "fewest_steps" "fewest_steps" (defArgs s_fewest_steps) (defBody s_fewest_steps) (defScope s_fewest_steps) .none kV_fewest_steps dc_fewest_steps pm_fewest_steps an_fewest_steps cd_fewest_steps ct_fewest_steps), sl_fewest_steps⟩)
    (e_fewest_steps : PySem.W.codeIn K cd_fewest_steps "fewest_steps" = true)
    (k_fewest_steps : PySem.W.keepIn K (.ref f_fewest_steps) = true)
    (a_clear_paper : PySem.W.nsIn K mainGlobals "clear_paper" = some (some (.ref f_clear_paper)))
    (l_clear_paper : K.lookup f_clear_paper = some ⟨oc_clear_paper, od_clear_paper, .func (PySem.W.fnOf "clear_paper" "clear_paper" (defArgs s_clear_paper) (defBody s_clear_paper) (defScope s_clear_paper) .none kV_clear_paper dc_clear_paper pm_clear_paper an_clear_paper cd_clear_paper ct_clear_paper), sl_clear_paper⟩)
    (e_clear_paper : PySem.W.codeIn K cd_clear_paper "clear_paper" = true)
    (k_clear_paper : PySem.W.keepIn K (.ref f_clear_paper) = true)
    (a_check_clear : PySem.W.nsIn K mainGlobals "check_clear" = some (some (.ref f_check_clear)))
    (l_check_clear : K.lookup f_check_clear = some ⟨oc_check_clear, od_check_clear, .func (PySem.W.fnOf "check_clear" "check_clear" (defArgs s_check_clear) (defBody s_check_clear) (defScope s_check_clear) .none kV_check_clear dc_check_clear pm_check_clear an_check_clear cd_check_clear ct_check_clear), sl_check_clear⟩)
    (e_check_clear : PySem.W.codeIn K cd_check_clear "check_clear" = true)
    (k_check_clear : PySem.W.keepIn K (.ref f_check_clear) = true)
    (a_law : PySem.W.nsIn K mainGlobals "law" = some (some (.ref f_law)))
    (l_law : K.lookup f_law = some ⟨oc_law, od_law, .func (PySem.W.fnOf "law" "law" (defArgs s_law) (defBody s_law) (defScope s_law) .none kV_law dc_law pm_law an_law cd_law ct_law), sl_law⟩)
    (e_law : PySem.W.codeIn K cd_law "law" = true)
    (k_law : PySem.W.keepIn K (.ref f_law) = true)
    (b_isinstance : PySem.W.nsIn K mainGlobals "isinstance" = some none)
    (b_int : PySem.W.nsIn K mainGlobals "int" = some none)
    (b_bool : PySem.W.nsIn K mainGlobals "bool" = some none)
    (b_tuple : PySem.W.nsIn K mainGlobals "tuple" = some none)
    (b_len : PySem.W.nsIn K mainGlobals "len" = some none)
    (b_list : PySem.W.nsIn K mainGlobals "list" = some none)
    (b_range : PySem.W.nsIn K mainGlobals "range" = some none)
    (b_max : PySem.W.nsIn K mainGlobals "max" = some none)
    (b_min : PySem.W.nsIn K mainGlobals "min" = some none)
    (b_all : PySem.W.nsIn K mainGlobals "all" = some none)
    (b_zip : PySem.W.nsIn K mainGlobals "zip" = some none)
    (b_str : PySem.W.nsIn K mainGlobals "str" = some none)
    (b_enumerate : PySem.W.nsIn K mainGlobals "enumerate" = some none)
    (b_sorted : PySem.W.nsIn K mainGlobals "sorted" = some none)
    (v_LOOKS : PySem.W.nsIn K mainGlobals "LOOKS" = some (some (.int 4 q_LOOKS)))
    (v_TOP : PySem.W.nsIn K mainGlobals "TOP" = some (some (.int 0 q_TOP)))
    (v_LEAST : PySem.W.nsIn K mainGlobals "LEAST" = some (some (.int 3 q_LEAST)))
    (v_MOST_TOP : PySem.W.nsIn K mainGlobals "MOST_TOP" = some (some (.int 3 q_MOST_TOP)))
    (v_MOST_LEAST : PySem.W.nsIn K mainGlobals "MOST_LEAST" = some (some (.int 9 q_MOST_LEAST)))
    (v_DOWN : PySem.W.nsIn K mainGlobals "DOWN" = some (some (.int 2 q_DOWN)))
    (v_UP : PySem.W.nsIn K mainGlobals "UP" = some (some (.int 1 q_UP)))
    (v_LATE : PySem.W.nsIn K mainGlobals "LATE" = some (some (.int 6 q_LATE)))
    (v_CLEAR : PySem.W.nsIn K mainGlobals "CLEAR" = some (some (.str "clear" q_CLEAR)))
    (v_CRASH : PySem.W.nsIn K mainGlobals "CRASH" = some (some (.str "crash" q_CRASH)))
    (v_RULES : PySem.W.nsIn K mainGlobals "RULES" = some (some (.int 5 q_RULES)))
    (v_PARTS : PySem.W.nsIn K mainGlobals "PARTS" = some (some (.int 7 q_PARTS)))
    (v_MOST_ROWS : PySem.W.nsIn K mainGlobals "MOST_ROWS" = some (some (.int 6 q_MOST_ROWS)))
    (v_MOST_LOOKS : PySem.W.nsIn K mainGlobals "MOST_LOOKS" = some (some (.int 6 q_MOST_LOOKS)))
    (hm : ∀ ns : List Int, ns.length ≤ 63 → (∀ z ∈ ns, Builtin.Int.intBits z ≤ 1048576) → ∃ g, m_law [.scr ns] [] = .ok (.bl true) g) : LamX.LawAtS l w K (L2.CX l.prog w) 9 63 "_law_script" mg fa h := by
  have A_is_whole := at_mk (st := s_is_whole) X G a_is_whole l_is_whole e_is_whole k_is_whole
  have A_is_tuple_of := at_mk (st := s_is_tuple_of) X G a_is_tuple_of l_is_tuple_of e_is_tuple_of k_is_tuple_of
  have A_follows_in := at_mk (st := s_follows_in) X G a_follows_in l_follows_in e_follows_in k_follows_in
  have A_far_in := at_mk (st := s_far_in) X G a_far_in l_far_in e_far_in k_far_in
  have A_aspect_in := at_mk (st := s_aspect_in) X G a_aspect_in l_aspect_in e_aspect_in k_aspect_in
  have A_standings_to := at_mk (st := s_standings_to) X G a_standings_to l_standings_to e_standings_to k_standings_to
  have A_leads_by := at_mk (st := s_leads_by) X G a_leads_by l_leads_by e_leads_by k_leads_by
  have A_is_start_by := at_mk (st := s_is_start_by) X G a_is_start_by l_is_start_by e_is_start_by k_is_start_by
  have A_moved := at_mk (st := s_moved) X G a_moved l_moved e_moved k_moved
  have A__law_begun := at_mk (st := s__law_begun) X G a__law_begun l__law_begun e__law_begun k__law_begun
  have A__law_draw := at_mk (st := s__law_draw) X G a__law_draw l__law_draw e__law_draw k__law_draw
  have A__law_books := at_mk (st := s__law_books) X G a__law_books l__law_books e__law_books k__law_books
  have A_is_choice := at_mk (st := s_is_choice) X G a_is_choice l_is_choice e_is_choice k_is_choice
  have A_numbers_fault := at_mk (st := s_numbers_fault) X G a_numbers_fault l_numbers_fault e_numbers_fault k_numbers_fault
  have A_followers := at_mk (st := s_followers) X G a_followers l_followers e_followers k_followers
  have A_is_standing_in := at_mk (st := s_is_standing_in) X G a_is_standing_in l_is_standing_in e_is_standing_in k_is_standing_in
  have A_aspect_seen := at_mk (st := s_aspect_seen) X G a_aspect_seen l_aspect_seen e_aspect_seen k_aspect_seen
  have A_leads_in := at_mk (st := s_leads_in) X G a_leads_in l_leads_in e_leads_in k_leads_in
  have A_is_start := at_mk (st := s_is_start) X G a_is_start l_is_start e_is_start k_is_start
  have A_starts_by := at_mk (st := s_starts_by) X G a_starts_by l_starts_by e_starts_by k_starts_by
  have A_capped := at_mk (st := s_capped) X G a_capped l_capped e_capped k_capped
  have A_exact_start := at_mk (st := s_exact_start) X G a_exact_start l_exact_start e_exact_start k_exact_start
  have A_need_form := at_mk (st := s_need_form) X G a_need_form l_need_form e_need_form k_need_form
  have A_is_row := at_mk (st := s_is_row) X G a_is_row l_is_row e_is_row k_is_row
  have A_choices_in := at_mk (st := s_choices_in) X G a_choices_in l_choices_in e_choices_in k_choices_in
  have A_starts_in := at_mk (st := s_starts_in) X G a_starts_in l_starts_in e_starts_in k_starts_in
  have A_steps_in := at_mk (st := s_steps_in) X G a_steps_in l_steps_in e_steps_in k_steps_in
  have A_first_fault := at_mk (st := s_first_fault) X G a_first_fault l_first_fault e_first_fault k_first_fault
  have A_is_step_in := at_mk (st := s_is_step_in) X G a_is_step_in l_is_step_in e_is_step_in k_is_step_in
  have A_coming_in := at_mk (st := s_coming_in) X G a_coming_in l_coming_in e_coming_in k_coming_in
  have A_crash_steps := at_mk (st := s_crash_steps) X G a_crash_steps l_crash_steps e_crash_steps k_crash_steps
  have A_is_closed := at_mk (st := s_is_closed) X G a_is_closed l_is_closed e_is_closed k_is_closed
  have A_book_fault := atC_mk (st := s_book_fault) X G a_book_fault l_book_fault e_book_fault k_book_fault
  have A_crash_in := at_mk (st := s_crash_in) X G a_crash_in l_crash_in e_crash_in k_crash_in
  have A_need_book := at_mk (st := s_need_book) X G a_need_book l_need_book e_need_book k_need_book
  have A_crash_paper := at_mk (st := s_crash_paper) X G a_crash_paper l_crash_paper e_crash_paper k_crash_paper
  have A_check_crash := at_mk (st := s_check_crash) X G a_check_crash l_check_crash e_check_crash k_check_crash
  have A_is_clear := at_mk (st := s_is_clear) X G a_is_clear l_is_clear e_is_clear k_is_clear
  have A_fewest_steps := at_mk (st := s_fewest_steps) X G a_fewest_steps l_fewest_steps e_fewest_steps k_fewest_steps
  have A_clear_paper := at_mk (st := s_clear_paper) X G a_clear_paper l_clear_paper e_clear_paper k_clear_paper
  have A_check_clear := at_mk (st := s_check_clear) X G a_check_clear l_check_clear e_check_clear k_check_clear
  have T : Tx mg := ⟨PySem.W.mg_none_of X G b_isinstance, PySem.W.mg_none_of X G b_int, PySem.W.mg_none_of X G b_bool, PySem.W.mg_none_of X G b_tuple, PySem.W.mg_none_of X G b_len, PySem.W.mg_none_of X G b_list, PySem.W.mg_none_of X G b_range, PySem.W.mg_none_of X G b_max, PySem.W.mg_none_of X G b_min, PySem.W.mg_none_of X G b_all, PySem.W.mg_none_of X G b_zip, PySem.W.mg_none_of X G b_str, PySem.W.mg_none_of X G b_enumerate, PySem.W.mg_none_of X G b_sorted, int_mk X G v_LOOKS, int_mk X G v_TOP, int_mk X G v_LEAST, int_mk X G v_MOST_TOP, int_mk X G v_MOST_LEAST, int_mk X G v_DOWN, int_mk X G v_UP, int_mk X G v_LATE, str_mk X G v_CLEAR, str_mk X G v_CRASH, int_mk X G v_RULES, int_mk X G v_PARTS, int_mk X G v_MOST_ROWS, int_mk X G v_MOST_LOOKS⟩
  obtain ⟨fd, F, hb⟩ := law_mk (st := s_law) (y := "_law_script") X G hfa (fun _ _ _ _ _ _ s v => .of_eq rfl) a_law l_law e_law k_law
  have tt := tabs _ (List.mem_singleton.mpr rfl) _ _ (tabIn_of (hc := rfl) a_book_fault l_book_fault u_book_fault x_book_fault)
  exact law_at (L := Lt) (m := m_law) [(c_book_fault, P_book_fault)] [(P_book_fault, ("book_fault.<locals>.<lambda>" : Str))] (fun q hq => ⟨_, List.mem_singleton.mpr rfl, by rw [List.mem_singleton.mp hq]⟩) (fun p hp => by rw [List.mem_singleton.mp hp]; exact tt.2) (fun p hp => by rw [List.mem_singleton.mp hp]; exact n_book_fault) (fun p hp => by rw [List.mem_singleton.mp hp]; exact tt.1) hb hm fun base KB GB TB => ok_all T A_is_whole A_is_tuple_of A_follows_in A_far_in A_aspect_in A_standings_to A_leads_by A_is_start_by A_moved A__law_begun A__law_draw A__law_books A_is_choice A_numbers_fault A_followers A_is_standing_in A_aspect_seen A_leads_in A_is_start A_starts_by A_capped A_exact_start A_need_form A_is_row A_choices_in A_starts_in A_steps_in A_first_fault A_is_step_in A_coming_in A_crash_steps A_is_closed A_book_fault (TB _ (List.mem_singleton.mpr rfl)) (List.mem_singleton.mpr rfl) (fun p hp _ => by rw [List.mem_singleton.mp hp]) A_crash_in A_need_book A_crash_paper A_check_crash A_is_clear A_fewest_steps A_clear_paper A_check_clear F
theorem ev_cons {m : ME} {ms : MA} {env : Ev} {g g1 g2 : G} {d : D} {ds : List D} (h : m env g = .ok d g1) (hs : ms env g1 = .ok ds g2) : mCons m ms env g = .ok (d :: ds) g2 := by
  unfold mCons
  rw [h]
  show R.bind (ms env g1) _ = _
  rw [hs]
  rfl
def isTs : R (Fl × Ev) → Bool
  | .ok (.rt (.bl true), _) _ => true
  | _ => false
theorem isTs_of {m : R (Fl × Ev)} (h : isTs m = true) : ∃ e g, m = .ok (.rt (.bl true), e) g := by
  cases m with
  | ok p g =>
    obtain ⟨f, e⟩ := p
    cases f with
    | rt d =>
      cases d with
      | bl b =>
        cases b
        · cases h
        · exact ⟨e, g, rfl⟩
      | _ => cases h
    | _ => cases h
  | _ => cases h
def bks : D := match m__law_books [] [] with
  | .ok d _ => d
  | _ => .non
theorem bks_at : m__law_books [] [] = .ok bks [] := by kernel_rfl
theorem bks_is (g : G) : m__law_books [] g = .ok bks g := by rw [fr__law_books [] g, bks_at]; rfl
abbrev body10 : MS := (mSeq (mIfS (mOrT (mTst (mBin fNe (mFn 1 m_is_clear (mCons (mVar 4) (mNil))) (mBin fIsN (mPk 5) (mC .non)))) (mTst (mBin fNe (mFn 1 m_fewest_steps (mCons (mVar 4) (mNil))) (mPk 5)))) (mRet (mC (.bl false))) (mSkip)) (mSeq (mAsg (mFn 1 m_clear_paper (mCons (mVar 4) (mNil))) (bName 6)) (mIfS (mOrT (mTst (mBin fNe (mFn 2 m_check_clear (mCons (mVar 4) (mCons (mVar 6) (mNil)))) (mBin fIx (mNew (mItems (mCons (mC (.str "crash")) (mCons (mC (.str "clear")) (mNil))))) (mBlt fInt1 (mCons (mBin fIsN (mPk 5) (mC .non)) (mNil)))))) (mTst (mBin fNe (mBin fIx (mPk 6) (mC (.int 0))) (mFn 2 m_check_clear (mCons (mVar 4) (mCons (mVar 6) (mNil))))))) (mRet (mC (.bl false))) (mSkip))))
abbrev last10 : MS := (mSeq (mAsg (mBin fIx (mBin fIx (mPk 2) (mC (.int 1))) (mC (.int 0))) (bName 4)) (mRet (mBin fEq (mFn 2 m_check_clear (mCons (mVar 4) (mCons (mTup (mCons (mC (.str "crash")) (mCons (mC (.int 1)) (mCons (mC (.int 0)) (mCons (mC (.int 0)) (mCons (mTup (mCons (mTup (mCons (mC (.int 1)) (mCons (mC (.int 0)) (mNil)))) (mCons (mTup (mCons (mC (.int 1)) (mCons (mC (.int 0)) (mNil)))) (mNil)))) (mNil))))))) (mNil)))) (mC (.str "crash")))))
abbrev restL : MS := (mSeq (mFor (mItL (mBin fAdd (mSl (mPk 2) (mPart (mVar 3)) (mNo)) (mSl (mPk 2) (mNo) (mPart (mVar 3))))) (bTup [4, 5]) (mSeq (mIfS (mOrT (mTst (mBin fNe (mFn 1 m_is_clear (mCons (mVar 4) (mNil))) (mBin fIsN (mPk 5) (mC .non)))) (mTst (mBin fNe (mFn 1 m_fewest_steps (mCons (mVar 4) (mNil))) (mPk 5)))) (mRet (mC (.bl false))) (mSkip)) (mSeq (mAsg (mFn 1 m_clear_paper (mCons (mVar 4) (mNil))) (bName 6)) (mIfS (mOrT (mTst (mBin fNe (mFn 2 m_check_clear (mCons (mVar 4) (mCons (mVar 6) (mNil)))) (mBin fIx (mNew (mItems (mCons (mC (.str "crash")) (mCons (mC (.str "clear")) (mNil))))) (mBlt fInt1 (mCons (mBin fIsN (mPk 5) (mC .non)) (mNil)))))) (mTst (mBin fNe (mBin fIx (mPk 6) (mC (.int 0))) (mFn 2 m_check_clear (mCons (mVar 4) (mCons (mVar 6) (mNil))))))) (mRet (mC (.bl false))) (mSkip))))) (mSeq (mAsg (mBin fIx (mBin fIx (mPk 2) (mC (.int 1))) (mC (.int 0))) (bName 4)) (mRet (mBin fEq (mFn 2 m_check_clear (mCons (mVar 4) (mCons (mTup (mCons (mC (.str "crash")) (mCons (mC (.int 1)) (mCons (mC (.int 0)) (mCons (mC (.int 0)) (mCons (mTup (mCons (mTup (mCons (mC (.int 1)) (mCons (mC (.int 0)) (mNil)))) (mCons (mTup (mCons (mC (.int 1)) (mCons (mC (.int 0)) (mNil)))) (mNil)))) (mNil))))))) (mNil)))) (mC (.str "crash"))))))
abbrev e10 (ns : List Int) (r : Int) : Ev := [.val (.scr ns), .val (.gr 0), .val bks, .val (.int r), .no, .no, .no]
abbrev f10 (ns : List Int) (r : Int) (a b c : Slot) : Ev := [.val (.scr ns), .val (.gr 0), .val bks, .val (.int r), a, b, c]
def items : List D := match bks with
  | .lst ds => ds
  | _ => []
def fstD : D → D
  | .tup [a, _] => a
  | _ => .non
def sndD : D → D
  | .tup [_, b] => b
  | _ => .non
def papD (d : D) : D := match m_clear_paper [fstD d] [] with
  | .ok p _ => p
  | _ => .non
def it (i : Nat) : D := items.getD i .non
theorem bk_0 (ns : List Int) (r : Int) (x : Slot) (g : G) : body10 (f10 ns r (.val (fstD (it 0))) (.val (sndD (it 0))) x) g = .ok (.nx, f10 ns r (.val (fstD (it 0))) (.val (sndD (it 0))) (.val (papD (it 0)))) g := by kernel_rfl
theorem bk_1 (ns : List Int) (r : Int) (x : Slot) (g : G) : body10 (f10 ns r (.val (fstD (it 1))) (.val (sndD (it 1))) x) g = .ok (.nx, f10 ns r (.val (fstD (it 1))) (.val (sndD (it 1))) (.val (papD (it 1)))) g := by kernel_rfl
theorem bk_2 (ns : List Int) (r : Int) (x : Slot) (g : G) : body10 (f10 ns r (.val (fstD (it 2))) (.val (sndD (it 2))) x) g = .ok (.nx, f10 ns r (.val (fstD (it 2))) (.val (sndD (it 2))) (.val (papD (it 2)))) g := by kernel_rfl
theorem bk_3 (ns : List Int) (r : Int) (x : Slot) (g : G) : body10 (f10 ns r (.val (fstD (it 3))) (.val (sndD (it 3))) x) g = .ok (.nx, f10 ns r (.val (fstD (it 3))) (.val (sndD (it 3))) (.val (papD (it 3)))) g := by kernel_rfl
theorem bk_4 (ns : List Int) (r : Int) (x : Slot) (g : G) : body10 (f10 ns r (.val (fstD (it 4))) (.val (sndD (it 4))) x) g = .ok (.nx, f10 ns r (.val (fstD (it 4))) (.val (sndD (it 4))) (.val (papD (it 4)))) g := by kernel_rfl
theorem bk_5 (ns : List Int) (r : Int) (x : Slot) (g : G) : body10 (f10 ns r (.val (fstD (it 5))) (.val (sndD (it 5))) x) g = .ok (.nx, f10 ns r (.val (fstD (it 5))) (.val (sndD (it 5))) (.val (papD (it 5)))) g := by kernel_rfl
theorem bk_6 (ns : List Int) (r : Int) (x : Slot) (g : G) : body10 (f10 ns r (.val (fstD (it 6))) (.val (sndD (it 6))) x) g = .ok (.nx, f10 ns r (.val (fstD (it 6))) (.val (sndD (it 6))) (.val (papD (it 6)))) g := by kernel_rfl
theorem bk_7 (ns : List Int) (r : Int) (x : Slot) (g : G) : body10 (f10 ns r (.val (fstD (it 7))) (.val (sndD (it 7))) x) g = .ok (.nx, f10 ns r (.val (fstD (it 7))) (.val (sndD (it 7))) (.val (papD (it 7)))) g := by kernel_rfl
theorem bk_8 (ns : List Int) (r : Int) (x : Slot) (g : G) : body10 (f10 ns r (.val (fstD (it 8))) (.val (sndD (it 8))) x) g = .ok (.nx, f10 ns r (.val (fstD (it 8))) (.val (sndD (it 8))) (.val (papD (it 8)))) g := by kernel_rfl
theorem bk_9 (ns : List Int) (r : Int) (x : Slot) (g : G) : body10 (f10 ns r (.val (fstD (it 9))) (.val (sndD (it 9))) x) g = .ok (.nx, f10 ns r (.val (fstD (it 9))) (.val (sndD (it 9))) (.val (papD (it 9)))) g := by kernel_rfl
theorem tup2 (k : Nat) (hk : k < 10) (env : Ev) : bTup [4, 5] (it k) env = some ((env.set 4 (.val (fstD (it k)))).set 5 (.val (sndD (it k)))) := by
  have h : k = 0 ∨ k = 1 ∨ k = 2 ∨ k = 3 ∨ k = 4 ∨ k = 5 ∨ k = 6 ∨ k = 7 ∨ k = 8 ∨ k = 9 := by omega
  rcases h with e | e | e | e | e | e | e | e | e | e <;> subst e <;> kernel_rfl
theorem bk_all (k : Nat) (hk : k < 10) (ns : List Int) (r : Int) (x : Slot) (g : G) : body10 (f10 ns r (.val (fstD (it k))) (.val (sndD (it k))) x) g = .ok (.nx, f10 ns r (.val (fstD (it k))) (.val (sndD (it k))) (.val (papD (it k)))) g := by
  have h : k = 0 ∨ k = 1 ∨ k = 2 ∨ k = 3 ∨ k = 4 ∨ k = 5 ∨ k = 6 ∨ k = 7 ∨ k = 8 ∨ k = 9 := by omega
  rcases h with e | e | e | e | e | e | e | e | e | e <;> subst e
  · exact bk_0 ns r x g
  · exact bk_1 ns r x g
  · exact bk_2 ns r x g
  · exact bk_3 ns r x g
  · exact bk_4 ns r x g
  · exact bk_5 ns r x g
  · exact bk_6 ns r x g
  · exact bk_7 ns r x g
  · exact bk_8 ns r x g
  · exact bk_9 ns r x g
theorem loop10 (ns : List Int) (r : Int) (g : G) : ∀ (ks : List Nat), (∀ k ∈ ks, k < 10) → ∀ a b c, ∃ a' b' c', forL (bTup [4, 5]) body10 (ks.map it) (f10 ns r a b c) g = .ok (.nx, f10 ns r a' b' c') g
  | [], _, a, b, c => ⟨a, b, c, rfl⟩
  | k :: ks, h, a, b, c => by
    obtain ⟨a', b', c', e⟩ := loop10 ns r g ks (fun j hj => h j (List.mem_cons_of_mem _ hj)) (.val (fstD (it k))) (.val (sndD (it k))) (.val (papD (it k)))
    refine ⟨a', b', c', ?_⟩
    rw [List.map_cons, forL, tup2 k (h k (List.mem_cons_self ..))]
    show R.bind (body10 (f10 ns r (.val (fstD (it k))) (.val (sndD (it k))) c) g) _ = _
    rw [bk_all k (h k (List.mem_cons_self ..))]
    exact e
theorem iter10 (ns : List Int) (r : Nat) (hr : r < 10) (g : G) : ∃ ks : List Nat, (∀ k ∈ ks, k < 10) ∧ mItL (mBin fAdd (mSl (mPk 2) (mPart (mVar 3)) (mNo)) (mSl (mPk 2) (mNo) (mPart (mVar 3)))) (e10 ns r) g = .ok (ks.map it) g := by
  refine ⟨(List.range 10).drop r ++ (List.range 10).take r, fun k hk => ?_, ?_⟩
  · rcases List.mem_append.mp hk with h | h
    · exact List.mem_range.mp (List.mem_of_mem_drop h)
    · exact List.mem_range.mp (List.mem_of_mem_take h)
  · have h : r = 0 ∨ r = 1 ∨ r = 2 ∨ r = 3 ∨ r = 4 ∨ r = 5 ∨ r = 6 ∨ r = 7 ∨ r = 8 ∨ r = 9 := by omega
    rcases h with e | e | e | e | e | e | e | e | e | e <;> subst e <;> kernel_rfl
theorem last_at (ns : List Int) (r : Int) (a b c : Slot) (g : G) : isTs (last10 (f10 ns r a b c) g) = true := by kernel_rfl
theorem len10 (ns : List Int) (g : G) : mBlt fLen (mCons (mPk 2) (mNil)) [.val (.scr ns), .val (.gr 0), .val bks, .no, .no, .no, .no] g = .ok (.int 10) g := by kernel_rfl
theorem law_true : ∀ ns : List Int, ns.length ≤ 63 → (∀ z ∈ ns, Builtin.Int.intBits z ≤ 1048576) → ∃ g, m_law [.scr ns] [] = .ok (.bl true) g := fun ns hl _ => by
  obtain ⟨gs, egs⟩ : ∃ gs, gs = ns.filter fun n => decide ((10 : Int) ^ 18 ≤ n) := ⟨_, rfl⟩
  have lg : gs.length ≤ 63 := by rw [egs]; exact Nat.le_trans (List.length_filter_le _ _) hl
  have hb : m__law_begun [.scr ns] [] = .ok (.gr 0) [gS gs (seedOf 11 ns) 0] := by rw [egs]; exact begun_ok ns []
  obtain ⟨r, gs', t', hd, r0, r1, _⟩ := draw_ok (g := [gS gs (seedOf 11 ns) 0]) (n := 0) (gs := gs) (s := seedOf 11 ns) (t := 0) (lim := 10) rfl (by omega) (by omega) (by omega) (by omega) (by omega)
  have hd : m__law_draw [.gr 0, .int 10] [gS gs (seedOf 11 ns) 0] = .ok (.int r) [gS gs' (seedOf 11 ns) t'] := hd
  obtain ⟨q, rfl⟩ : ∃ q : Nat, r = q := ⟨r.toNat, by omega⟩
  have A1 : mAsg (mFn 1 m__law_begun (mCons (mVar 0) (mNil))) (bName 1) [.val (.scr ns), .no, .no, .no, .no, .no, .no] [] = .ok (.nx, [.val (.scr ns), .val (.gr 0), .no, .no, .no, .no, .no]) [gS gs (seedOf 11 ns) 0] :=
    ev_asg (ev_fn (show mCons (mVar 0) (mNil) [.val (.scr ns), .no, .no, .no, .no, .no, .no] [] = .ok [.scr ns] [] from rfl) rfl hb)
  have A2 : mAsg (mFn 0 m__law_books mNil) (bName 2) [.val (.scr ns), .val (.gr 0), .no, .no, .no, .no, .no] [gS gs (seedOf 11 ns) 0] = .ok (.nx, [.val (.scr ns), .val (.gr 0), .val bks, .no, .no, .no, .no]) [gS gs (seedOf 11 ns) 0] :=
    ev_asg (ev_fn rfl rfl (bks_is _))
  have A3a : mCons (mVar 1) (mCons (mBlt fLen (mCons (mPk 2) (mNil))) (mNil)) [.val (.scr ns), .val (.gr 0), .val bks, .no, .no, .no, .no] [gS gs (seedOf 11 ns) 0] = .ok [.gr 0, .int 10] [gS gs (seedOf 11 ns) 0] := ev_cons rfl (ev_cons (len10 ns _) rfl)
  have A3 : mAsg (mFn 2 m__law_draw (mCons (mVar 1) (mCons (mBlt fLen (mCons (mPk 2) (mNil))) (mNil)))) (bName 3) [.val (.scr ns), .val (.gr 0), .val bks, .no, .no, .no, .no] [gS gs (seedOf 11 ns) 0] = .ok (.nx, e10 ns q) [gS gs' (seedOf 11 ns) t'] :=
    ev_asg (ev_fn A3a rfl hd)
  obtain ⟨ks, hks, hit⟩ := iter10 ns q (by omega) [gS gs' (seedOf 11 ns) t']
  obtain ⟨a, b, c, hlp⟩ := loop10 ns q [gS gs' (seedOf 11 ns) t'] ks hks .no .no .no
  have A4 : mFor (mItL (mBin fAdd (mSl (mPk 2) (mPart (mVar 3)) (mNo)) (mSl (mPk 2) (mNo) (mPart (mVar 3))))) (bTup [4, 5]) body10 (e10 ns q) [gS gs' (seedOf 11 ns) t'] = .ok (.nx, f10 ns q a b c) [gS gs' (seedOf 11 ns) t'] := by
    unfold mFor
    rw [hit]
    exact hlp
  obtain ⟨e, g, h⟩ := isTs_of (last_at ns q a b c [gS gs' (seedOf 11 ns) t'])
  exact ⟨g, ev_def ((ev_seq A1).trans ((ev_seq A2).trans ((ev_seq A3).trans ((ev_seq A4).trans h))))⟩
end KX
open PySem PySem.W PyProof.Rows
set_option maxRecDepth 100000 in
set_option maxHeartbeats 0 in
theorem PySem.Challenge.cw_gaptrains_k10_clear_by_hand_holds : PySem.Challenge.rw_gaptrains_k10_clear_by_hand.Holds := by
  w_on; o_law; k_head; (case hw => w_witness2)
  k_fill
  refine GT.walk_ofTop (l := PySem.Challenge.rw_gaptrains_k10_clear_by_hand) (n := 63) (k := 9) (x := "_law_script") (CX := fun w => L2.CX PySem.Challenge.rw_gaptrains_k10_clear_by_hand.prog w) ["book_fault"] rfl (by decide) rfl ⟨rfl, by decide, by decide⟩ (by decide +kernel) (fun w h Y => PySem.W.km_in_of Y) ?F (fun _ _ _ _ _ z => GT.no_cx z)
  case F =>
    intro w mg fa h KI G hmg tabs
    refine' KX.all_mk KI G hmg tabs ?a_is_whole ?l_is_whole ?e_is_whole ?k_is_whole ?a_is_tuple_of ?l_is_tuple_of ?e_is_tuple_of ?k_is_tuple_of ?a_follows_in ?l_follows_in ?e_follows_in ?k_follows_in ?a_far_in ?l_far_in ?e_far_in ?k_far_in ?a_aspect_in ?l_aspect_in ?e_aspect_in ?k_aspect_in ?a_standings_to ?l_standings_to ?e_standings_to ?k_standings_to ?a_leads_by ?l_leads_by ?e_leads_by ?k_leads_by ?a_is_start_by ?l_is_start_by ?e_is_start_by ?k_is_start_by ?a_moved ?l_moved ?e_moved ?k_moved ?a__law_begun ?l__law_begun ?e__law_begun ?k__law_begun ?a__law_draw ?l__law_draw ?e__law_draw ?k__law_draw ?a__law_books ?l__law_books ?e__law_books ?k__law_books ?a_is_choice ?l_is_choice ?e_is_choice ?k_is_choice ?a_numbers_fault ?l_numbers_fault ?e_numbers_fault ?k_numbers_fault ?a_followers ?l_followers ?e_followers ?k_followers ?a_is_standing_in ?l_is_standing_in ?e_is_standing_in ?k_is_standing_in ?a_aspect_seen ?l_aspect_seen ?e_aspect_seen ?k_aspect_seen ?a_leads_in ?l_leads_in ?e_leads_in ?k_leads_in ?a_is_start ?l_is_start ?e_is_start ?k_is_start ?a_starts_by ?l_starts_by ?e_starts_by ?k_starts_by ?a_capped ?l_capped ?e_capped ?k_capped ?a_exact_start ?l_exact_start ?e_exact_start ?k_exact_start ?a_need_form ?l_need_form ?e_need_form ?k_need_form ?a_is_row ?l_is_row ?e_is_row ?k_is_row ?a_choices_in ?l_choices_in ?e_choices_in ?k_choices_in ?a_starts_in ?l_starts_in ?e_starts_in ?k_starts_in ?a_steps_in ?l_steps_in ?e_steps_in ?k_steps_in ?a_first_fault ?l_first_fault ?e_first_fault ?k_first_fault ?a_is_step_in ?l_is_step_in ?e_is_step_in ?k_is_step_in ?a_coming_in ?l_coming_in ?e_coming_in ?k_coming_in ?a_crash_steps ?l_crash_steps ?e_crash_steps ?k_crash_steps ?a_is_closed ?l_is_closed ?e_is_closed ?k_is_closed ?a_book_fault ?l_book_fault ?e_book_fault ?k_book_fault ?u_book_fault ?x_book_fault ?n_book_fault ?a_crash_in ?l_crash_in ?e_crash_in ?k_crash_in ?a_need_book ?l_need_book ?e_need_book ?k_need_book ?a_crash_paper ?l_crash_paper ?e_crash_paper ?k_crash_paper ?a_check_crash ?l_check_crash ?e_check_crash ?k_check_crash ?a_is_clear ?l_is_clear ?e_is_clear ?k_is_clear ?a_fewest_steps ?l_fewest_steps ?e_fewest_steps ?k_fewest_steps ?a_clear_paper ?l_clear_paper ?e_clear_paper ?k_clear_paper ?a_check_clear ?l_check_clear ?e_check_clear ?k_check_clear ?a_law ?l_law ?e_law ?k_law ?b_isinstance ?b_int ?b_bool ?b_tuple ?b_len ?b_list ?b_range ?b_max ?b_min ?b_all ?b_zip ?b_str ?b_enumerate ?b_sorted ?v_LOOKS ?v_TOP ?v_LEAST ?v_MOST_TOP ?v_MOST_LEAST ?v_DOWN ?v_UP ?v_LATE ?v_CLEAR ?v_CRASH ?v_RULES ?v_PARTS ?v_MOST_ROWS ?v_MOST_LOOKS KX.law_true
    (case a_is_whole => k_is)
    (case l_is_whole => k_is)
    (case e_is_whole => k_is)
    (case k_is_whole => k_is)
    (case a_is_tuple_of => k_is)
    (case l_is_tuple_of => k_is)
    (case e_is_tuple_of => k_is)
    (case k_is_tuple_of => k_is)
    (case a_follows_in => k_is)
    (case l_follows_in => k_is)
    (case e_follows_in => k_is)
    (case k_follows_in => k_is)
    (case a_far_in => k_is)
    (case l_far_in => k_is)
    (case e_far_in => k_is)
    (case k_far_in => k_is)
    (case a_aspect_in => k_is)
    (case l_aspect_in => k_is)
    (case e_aspect_in => k_is)
    (case k_aspect_in => k_is)
    (case a_standings_to => k_is)
    (case l_standings_to => k_is)
    (case e_standings_to => k_is)
    (case k_standings_to => k_is)
    (case a_leads_by => k_is)
    (case l_leads_by => k_is)
    (case e_leads_by => k_is)
    (case k_leads_by => k_is)
    (case a_is_start_by => k_is)
    (case l_is_start_by => k_is)
    (case e_is_start_by => k_is)
    (case k_is_start_by => k_is)
    (case a_moved => k_is)
    (case l_moved => k_is)
    (case e_moved => k_is)
    (case k_moved => k_is)
    (case a__law_begun => k_is)
    (case l__law_begun => k_is)
    (case e__law_begun => k_is)
    (case k__law_begun => k_is)
    (case a__law_draw => k_is)
    (case l__law_draw => k_is)
    (case e__law_draw => k_is)
    (case k__law_draw => k_is)
    (case a__law_books => k_is)
    (case l__law_books => k_is)
    (case e__law_books => k_is)
    (case k__law_books => k_is)
    (case a_is_choice => k_is)
    (case l_is_choice => k_is)
    (case e_is_choice => k_is)
    (case k_is_choice => k_is)
    (case a_numbers_fault => k_is)
    (case l_numbers_fault => k_is)
    (case e_numbers_fault => k_is)
    (case k_numbers_fault => k_is)
    (case a_followers => k_is)
    (case l_followers => k_is)
    (case e_followers => k_is)
    (case k_followers => k_is)
    (case a_is_standing_in => k_is)
    (case l_is_standing_in => k_is)
    (case e_is_standing_in => k_is)
    (case k_is_standing_in => k_is)
    (case a_aspect_seen => k_is)
    (case l_aspect_seen => k_is)
    (case e_aspect_seen => k_is)
    (case k_aspect_seen => k_is)
    (case a_leads_in => k_is)
    (case l_leads_in => k_is)
    (case e_leads_in => k_is)
    (case k_leads_in => k_is)
    (case a_is_start => k_is)
    (case l_is_start => k_is)
    (case e_is_start => k_is)
    (case k_is_start => k_is)
    (case a_starts_by => k_is)
    (case l_starts_by => k_is)
    (case e_starts_by => k_is)
    (case k_starts_by => k_is)
    (case a_capped => k_is)
    (case l_capped => k_is)
    (case e_capped => k_is)
    (case k_capped => k_is)
    (case a_exact_start => k_is)
    (case l_exact_start => k_is)
    (case e_exact_start => k_is)
    (case k_exact_start => k_is)
    (case a_need_form => k_is)
    (case l_need_form => k_is)
    (case e_need_form => k_is)
    (case k_need_form => k_is)
    (case a_is_row => k_is)
    (case l_is_row => k_is)
    (case e_is_row => k_is)
    (case k_is_row => k_is)
    (case a_choices_in => k_is)
    (case l_choices_in => k_is)
    (case e_choices_in => k_is)
    (case k_choices_in => k_is)
    (case a_starts_in => k_is)
    (case l_starts_in => k_is)
    (case e_starts_in => k_is)
    (case k_starts_in => k_is)
    (case a_steps_in => k_is)
    (case l_steps_in => k_is)
    (case e_steps_in => k_is)
    (case k_steps_in => k_is)
    (case a_first_fault => k_is)
    (case l_first_fault => k_is)
    (case e_first_fault => k_is)
    (case k_first_fault => k_is)
    (case a_is_step_in => k_is)
    (case l_is_step_in => k_is)
    (case e_is_step_in => k_is)
    (case k_is_step_in => k_is)
    (case a_coming_in => k_is)
    (case l_coming_in => k_is)
    (case e_coming_in => k_is)
    (case k_coming_in => k_is)
    (case a_crash_steps => k_is)
    (case l_crash_steps => k_is)
    (case e_crash_steps => k_is)
    (case k_crash_steps => k_is)
    (case a_is_closed => k_is)
    (case l_is_closed => k_is)
    (case e_is_closed => k_is)
    (case k_is_closed => k_is)
    (case a_book_fault => k_is)
    (case l_book_fault => k_is)
    (case e_book_fault => k_is)
    (case k_book_fault => k_is)
    (case u_book_fault => k_is)
    (case x_book_fault => rfl)
    (case n_book_fault => first | kernel_rfl | rfl)
    (case a_crash_in => k_is)
    (case l_crash_in => k_is)
    (case e_crash_in => k_is)
    (case k_crash_in => k_is)
    (case a_need_book => k_is)
    (case l_need_book => k_is)
    (case e_need_book => k_is)
    (case k_need_book => k_is)
    (case a_crash_paper => k_is)
    (case l_crash_paper => k_is)
    (case e_crash_paper => k_is)
    (case k_crash_paper => k_is)
    (case a_check_crash => k_is)
    (case l_check_crash => k_is)
    (case e_check_crash => k_is)
    (case k_check_crash => k_is)
    (case a_is_clear => k_is)
    (case l_is_clear => k_is)
    (case e_is_clear => k_is)
    (case k_is_clear => k_is)
    (case a_fewest_steps => k_is)
    (case l_fewest_steps => k_is)
    (case e_fewest_steps => k_is)
    (case k_fewest_steps => k_is)
    (case a_clear_paper => k_is)
    (case l_clear_paper => k_is)
    (case e_clear_paper => k_is)
    (case k_clear_paper => k_is)
    (case a_check_clear => k_is)
    (case l_check_clear => k_is)
    (case e_check_clear => k_is)
    (case k_check_clear => k_is)
    (case a_law => k_is)
    (case l_law => k_is)
    (case e_law => k_is)
    (case k_law => k_is)
    (case b_isinstance => k_is)
    (case b_int => k_is)
    (case b_bool => k_is)
    (case b_tuple => k_is)
    (case b_len => k_is)
    (case b_list => k_is)
    (case b_range => k_is)
    (case b_max => k_is)
    (case b_min => k_is)
    (case b_all => k_is)
    (case b_zip => k_is)
    (case b_str => k_is)
    (case b_enumerate => k_is)
    (case b_sorted => k_is)
    (case v_LOOKS => k_is)
    (case v_TOP => k_is)
    (case v_LEAST => k_is)
    (case v_MOST_TOP => k_is)
    (case v_MOST_LEAST => k_is)
    (case v_DOWN => k_is)
    (case v_UP => k_is)
    (case v_LATE => k_is)
    (case v_CLEAR => k_is)
    (case v_CRASH => k_is)
    (case v_RULES => k_is)
    (case v_PARTS => k_is)
    (case v_MOST_ROWS => k_is)
    (case v_MOST_LOOKS => k_is)
