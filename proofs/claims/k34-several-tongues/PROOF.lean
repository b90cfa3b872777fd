import PyProof.Rows.All
import Wide.All
import OpenK.AllK
import Wide.FinOn
import HandS.ForMost
import HandS.Evl
import HandS.TupAny
import HandS.TupLe
import HandS.Deep
import HandS.Flow
import HandS.Style
import HandS.Conv
import HandS.More
import HandS.Steps
import HandS.ListItems
import HandS.SetKeys
import HandS.TupSets
import HandS.Zip
import HandS.IsInst
import HandS.DictTup
import KE.SortData
import KE.DataMinMax
import KE.LtData
import KE.DataCmp
import KE.DataIsa
import KE.DataAny
import KE.DatumOrd
import KE.DatumMoreOrd
import KE.DatumIndex
import HandS.TupLen
import KE.GoesEnum
import KE.GoesNew
import KE.DatumMore
import HandS.Strs
import HandS.TupMul
import HandS.DeepEq
import PyProof.FString5
import Flt.Ops
import PySem.Challenge.RW_filedbyrule_k34_several_tongues
set_option Elab.async false
set_option linter.all false
set_option maxRecDepth 100000
/-! PL: a layer where a def means a function over plain data. Own work; stands over HandS. -/
namespace PL
open PySem PySem.Spec PyProof.Rows L2
abbrev D := PyData
abbrev Env := List (Option PyData)
abbrev Ex := Evl.Ex
def keyD : Key → D
  | .inl i => .int i
  | .inr s => .str s
def keysD (ks : List Key) : D := .tuple (ks.map keyD)

/-- locked for good: a dict that is data -/
def Fz (H : Hp) (a : Addr) (u : HO) : Prop := ∃ o, H a = some (.frz o u)
theorem Fz.rd {H : Hp} {a : Addr} {u : HO} (h : Fz H a u) : Rd H a u := .inr h
theorem fz_mono {H H' : Hp} {a : Addr} {u : HO} (e : Ex H H') (h : Fz H a u) : Fz H' a u := let ⟨o, q⟩ := h; ⟨o, e _ _ q⟩
/-- a tuple, known to its object: it has no dict of its own -/
def TU (H : Hp) (a : Addr) (xs : List V) : Prop := ∃ o : Obj, H a = some (.frz o (.tup xs)) ∧ o.dict = none
theorem TU.sq {K : PySem.W.Frag} {H : Hp} {a : Addr} {xs : List V} (h : TU H a xs) : SqT K H a xs := let ⟨o, q, _⟩ := h; .inl (.inr ⟨o, q⟩)
theorem tu_mono {H H' : Hp} {a : Addr} {xs : List V} (e : Ex H H') (h : TU H a xs) : TU H' a xs := let ⟨o, q, d⟩ := h; ⟨o, e _ _ q, d⟩
theorem TU.new {H : Hp} {a : Addr} {xs : List V} {o : Obj} (d : o.dict = none) : TU (upd H a (.frz o (.tup xs))) a xs := ⟨o, upd_same, d⟩
/-- a dict's key, an item of a zip: a tuple that is not known to its object -/
abbrev kt (ds : List D) : D := .dict [(.none, .tuple ds)]
/-- things are locked: the machine's state stays -/
inductive Gh (T : Hp → Prop) : Hp → Prop
  | here {H : Hp} : T H → Gh T H
  | lock {H : Hp} {d : Addr} {u : HO} : H d = some u → Mut (some u) → (∀ od, Gh T (upd H d (.frz od u))) → Gh T H
theorem Gh.mono {T T' : Hp → Prop} {H : Hp} (g : Gh T H) (f : ∀ H, T H → T' H) : Gh T' H := by
  induction g with
  | here t => exact .here (f _ t)
  | lock a b _ ih => exact .lock a b ih
theorem Gh.bind {T T' : Hp → Prop} {H : Hp} (g : Gh T H) (f : ∀ H, T H → Gh T' H) : Gh T' H := by
  induction g with
  | here t => exact f _ t
  | lock a b _ ih => exact .lock a b ih
theorem Gh.run {X : Cx} {pins : List (Addr × Obj)} {σ : L2.St} {T : Hp → Prop} {H : Hp} {s : Shared} (g : Gh T H) (I : L2.Inv X pins σ H s) : ∃ H', L2.Inv X pins σ H' s ∧ T H' := by
  induction g with
  | here t => exact ⟨_, I, t⟩
  | lock a b _ ih =>
    obtain ⟨od, I1⟩ := I.lock a b
    exact ih od I1
theorem PE.gh {X : Cx} {e : Expr} {t : TE} (h : PE X e t) : PE X e (fun σ H Q => t σ H fun v H' => Gh (Q v) H') := ⟨fun pins s σ H Q I hw => thn (h.run pins s σ H _ I hw) fun v s1 ⟨x, H1, I1, r, g⟩ => by
  obtain ⟨H2, I2, q⟩ := g.run I1
  exact ⟨x, H2, I2, r, q⟩⟩
theorem PS.ghPre {X : Cx} {st : Stmt} {t : TS} (h : PS X st t) : PS X st (fun D σ H => Gh (fun H' => t D σ H') H) := ⟨fun pins s σ H D I hw => by
  obtain ⟨H2, I2, q⟩ := hw.run I
  exact h.run pins s σ H2 D I2 q⟩
theorem PSs.ghPre {X : Cx} {st : List Stmt} {t : TS} (h : PSs X st t) : PSs X st (fun D σ H => Gh (fun H' => t D σ H') H) := ⟨fun pins s σ H D I hw => by
  obtain ⟨H2, I2, q⟩ := hw.run I
  exact h.run pins s σ H2 D I2 q⟩
def ghD (D : Ends) : Ends := { D with nx := fun σ H => Gh (D.nx σ) H }
theorem sp_gh {X : Cx} {pins : List (Addr × Obj)} {D : Ends} {f : Flow} {s : Shared} (h : SP X pins (ghD D) f s) : SP X pins D f s := by
  cases f with
  | next =>
    obtain ⟨σ, H, I, g⟩ := h
    obtain ⟨H2, I2, q⟩ := g.run I
    exact ⟨σ, H2, I2, q⟩
  | brk => exact h
  | cont => exact h
  | ret v => exact h
theorem PS.ghPost {X : Cx} {st : Stmt} {t : TS} (h : PS X st t) : PS X st (fun D σ H => t (ghD D) σ H) := ⟨fun pins s σ H D I hw => thn (h.run pins s σ H _ I hw) fun f s1 q => sp_gh q⟩
theorem PSs.ghPost {X : Cx} {st : List Stmt} {t : TS} (h : PSs X st t) : PSs X st (fun D σ H => t (ghD D) σ H) := ⟨fun pins s σ H D I hw => thn (h.run pins s σ H _ I hw) fun f s1 q => sp_gh q⟩

/-! ### what a value stands for: deep -/
mutual
inductive Rp (K : PySem.W.Frag) (H : Hp) : V → D → Prop
  | non : Rp K H .non .none
  | bl (b : Bool) : Rp K H (.bl b) (.bool b)
  | int (i : Int) : Rp K H (.int i) (.int i)
  | str (x : Str) : x.length ≤ sizeLine → Rp K H (.str x) (.str x)
  | lst {a : Addr} {xs : List V} {ds : List D} : Rd H a (.lst xs) → Rps K H xs ds → xs.length ≤ sizeLine → Rp K H (.ref a) (.list ds)
  /-- the script -/
  | scr {a : Addr} {ns : List Int} : SqL K H a (ns.map V.int) → Rp K H (.ref a) (.dict [(.none, .list (ns.map .int))])
  | tup {a : Addr} {xs : List V} {ds : List D} : TU H a xs → Rps K H xs ds → xs.length ≤ sizeLine → Rp K H (.ref a) (.tuple ds)
  | kt {a : Addr} {xs : List V} {ds : List D} : H a = some (.tup xs) → Rps K H xs ds → xs.length ≤ sizeLine → Rp K H (.ref a) (.dict [(.none, .tuple ds)])
  | dK {a : Addr} {kvs : List (Key × V)} {ds : List D} : Fz H a (.dK kvs) → Rps K H (kvs.map (·.2)) ds → Rp K H (.ref a) (.dict ((kvs.map fun p => keyD p.1).zip ds))
  | dT {a : Addr} {kvs : List (List Key × V)} {ds : List D} : Fz H a (.dT kvs) → Rps K H (kvs.map (·.2)) ds → Rp K H (.ref a) (.dict ((kvs.map fun p => keysD p.1).zip ds))
inductive Rps (K : PySem.W.Frag) (H : Hp) : List V → List D → Prop
  | nil : Rps K H [] []
  | cons {v : V} {vs : List V} {d : D} {ds : List D} : Rp K H v d → Rps K H vs ds → Rps K H (v :: vs) (d :: ds)
end
section
variable {K : PySem.W.Frag} {H H' Hd Hd' : Hp} {v : V} {d : D} {vs : List V} {ds : List D}
theorem rd_mono {a : Addr} {u : HO} (e : Ex H H') (h : Rd H a u) : Rd H' a u := Evl.ex_rd e h
theorem Rp.mono (e : Ex H H') (h : Rp K H v d) : Rp K H' v d :=
  Rp.rec (motive_1 := fun v d _ => Rp K H' v d) (motive_2 := fun vs ds _ => Rps K H' vs ds) .non .bl .int .str
    (fun h1 _ hz h2 => .lst (rd_mono e h1) h2 hz) (fun h1 => .scr (Evl.ex_l e h1)) (fun h1 _ hz h2 => .tup (tu_mono e h1) h2 hz) (fun h1 _ hz h2 => .kt (e _ _ h1) h2 hz) (fun h1 _ h2 => .dK (fz_mono e h1) h2) (fun h1 _ h2 => .dT (fz_mono e h1) h2)
    .nil (fun _ _ h1 h2 => .cons h1 h2) h
theorem Rps.mono (e : Ex H H') (h : Rps K H vs ds) : Rps K H' vs ds :=
  Rps.rec (motive_1 := fun v d _ => Rp K H' v d) (motive_2 := fun vs ds _ => Rps K H' vs ds) .non .bl .int .str
    (fun h1 _ hz h2 => .lst (rd_mono e h1) h2 hz) (fun h1 => .scr (Evl.ex_l e h1)) (fun h1 _ hz h2 => .tup (tu_mono e h1) h2 hz) (fun h1 _ hz h2 => .kt (e _ _ h1) h2 hz) (fun h1 _ h2 => .dK (fz_mono e h1) h2) (fun h1 _ h2 => .dT (fz_mono e h1) h2)
    .nil (fun _ _ h1 h2 => .cons h1 h2) h
theorem Rps.length : ∀ {vs : List V} {ds : List D}, Rps K H vs ds → vs.length = ds.length
  | [], [], _ => rfl
  | _ :: _, _ :: _, .cons _ t => congrArg (· + 1) (Rps.length t)
theorem Rps.get : ∀ {vs : List V} {ds : List D} {i : Nat} {d : D}, Rps K H vs ds → ds[i]? = some d → ∃ v, vs[i]? = some v ∧ Rp K H v d
  | [], [], _, _, _, h => by simp at h
  | v :: _, _ :: _, 0, d, .cons r _, h => ⟨v, rfl, by have e := Option.some.inj h; exact e ▸ r⟩
  | _ :: _, _ :: _, i + 1, d, .cons _ t, h => Rps.get (i := i) t (by simpa using h)
theorem Rps.get' : ∀ {vs : List V} {ds : List D} {i : Nat} {v : V}, Rps K H vs ds → vs[i]? = some v → ∃ d, ds[i]? = some d ∧ Rp K H v d
  | [], [], _, _, _, h => by simp at h
  | _ :: _, d :: _, 0, v, .cons r _, h => ⟨d, rfl, by have e := Option.some.inj h; exact e ▸ r⟩
  | _ :: _, _ :: _, i + 1, v, .cons _ t, h => Rps.get' (i := i) t (by simpa using h)
theorem Rps.append : ∀ {vs ws : List V} {ds es : List D}, Rps K H vs ds → Rps K H ws es → Rps K H (vs ++ ws) (ds ++ es)
  | [], _, [], _, _, s => s
  | _ :: _, _, _ :: _, _, .cons r t, s => .cons r (Rps.append t s)
theorem Rps.one (h : Rp K H v d) : Rps K H [v] [d] := .cons h .nil
theorem Rps.take : ∀ {vs : List V} {ds : List D} (n : Nat), Rps K H vs ds → Rps K H (vs.take n) (ds.take n)
  | _, _, 0, _ => .nil
  | [], [], _ + 1, _ => .nil
  | _ :: _, _ :: _, n + 1, .cons r t => .cons r (Rps.take n t)
theorem Rps.drop : ∀ {vs : List V} {ds : List D} (n : Nat), Rps K H vs ds → Rps K H (vs.drop n) (ds.drop n)
  | _, _, 0, r => r
  | [], [], _ + 1, _ => .nil
  | _ :: _, _ :: _, n + 1, .cons _ t => Rps.drop n t
theorem Rps.set : ∀ {vs : List V} {ds : List D} (i : Nat), Rps K H vs ds → Rp K H v d → Rps K H (vs.set i v) (ds.set i d)
  | [], [], _, _, _ => .nil
  | _ :: _, _ :: _, 0, .cons _ t, r => .cons r t
  | _ :: _, _ :: _, i + 1, .cons q t, r => .cons q (Rps.set i t r)
theorem Rps.dropLast : ∀ {vs : List V} {ds : List D}, Rps K H vs ds → Rps K H vs.dropLast ds.dropLast
  | [], [], _ => .nil
  | [_], [_], _ => .nil
  | _ :: _ :: _, _ :: _ :: _, .cons q t => .cons q (Rps.dropLast t)
theorem Rps.erase : ∀ {vs : List V} {ds : List D} (i : Nat), Rps K H vs ds → Rps K H (vs.eraseIdx i) (ds.eraseIdx i)
  | [], [], _, _ => .nil
  | _ :: _, _ :: _, 0, .cons _ t => t
  | _ :: _, _ :: _, i + 1, .cons q t => .cons q (Rps.erase i t)
theorem Rps.ints : ∀ {vs : List V} {ns : List Int}, Rps K H vs (ns.map .int) → vs = ns.map .int
  | [], [], _ => rfl
  | _ :: _, n :: ns, .cons r t => by cases r; rw [List.map_cons, Rps.ints t]
theorem Rps.strs : ∀ {vs : List V} {ns : List Str}, Rps K H vs (ns.map .str) → vs = ns.map .str
  | [], [], _ => rfl
  | _ :: _, n :: ns, .cons r t => by cases r; rw [List.map_cons, Rps.strs t]
theorem Rps.bls : ∀ {vs : List V} {ns : List Bool}, Rps K H vs (ns.map .bool) → vs = ns.map .bl
  | [], [], _ => rfl
  | _ :: _, n :: ns, .cons r t => by cases r; rw [List.map_cons, Rps.bls t]
theorem rps_ints : ∀ ns : List Int, Rps K H (ns.map .int) (ns.map .int)
  | [] => .nil
  | n :: ns => .cons (.int n) (rps_ints ns)
theorem Rps.intro : ∀ {vs : List V} {ds : List D}, vs.length = ds.length → (∀ (i : Nat) (v : V) (d : D), vs[i]? = some v → ds[i]? = some d → Rp K H v d) → Rps K H vs ds
  | [], [], _, _ => .nil
  | v :: _, d :: _, h, f => .cons (f 0 v d rfl rfl) (Rps.intro (Nat.succ.inj h) fun i v d a b => f (i + 1) v d (by simpa using a) (by simpa using b))
end

/-! ### the top in H, the rest in Hd -/
inductive Tp (K : PySem.W.Frag) (Hd H : Hp) : V → D → Prop
  | non : Tp K Hd H .non .none
  | bl (b : Bool) : Tp K Hd H (.bl b) (.bool b)
  | int (i : Int) : Tp K Hd H (.int i) (.int i)
  | str (x : Str) : x.length ≤ sizeLine → Tp K Hd H (.str x) (.str x)
  | lst {a : Addr} {xs : List V} {ds : List D} : Rd H a (.lst xs) → Rps K Hd xs ds → xs.length ≤ sizeLine → Tp K Hd H (.ref a) (.list ds)
  | scr {a : Addr} {ns : List Int} : SqL K H a (ns.map V.int) → Tp K Hd H (.ref a) (.dict [(.none, .list (ns.map .int))])
  | tup {a : Addr} {xs : List V} {ds : List D} : TU Hd a xs → Rps K Hd xs ds → xs.length ≤ sizeLine → Tp K Hd H (.ref a) (.tuple ds)
  | kt {a : Addr} {xs : List V} {ds : List D} : Hd a = some (.tup xs) → Rps K Hd xs ds → xs.length ≤ sizeLine → Tp K Hd H (.ref a) (.dict [(.none, .tuple ds)])
  | dK {a : Addr} {kvs : List (Key × V)} {ds : List D} : Rd H a (.dK kvs) → Rps K Hd (kvs.map (·.2)) ds → Tp K Hd H (.ref a) (.dict ((kvs.map fun p => keyD p.1).zip ds))
  | dT {a : Addr} {kvs : List (List Key × V)} {ds : List D} : Rd H a (.dT kvs) → Rps K Hd (kvs.map (·.2)) ds → Tp K Hd H (.ref a) (.dict ((kvs.map fun p => keysD p.1).zip ds))
/-- an object that its holder alone knows and may change -/
inductive Ow (K : PySem.W.Frag) (Hd H : Hp) : Addr → D → Prop
  | lst {a : Addr} {xs : List V} {ds : List D} : H a = some (.lst xs) → Rps K Hd xs ds → xs.length ≤ sizeLine → Ow K Hd H a (.list ds)
  | dK {a : Addr} {kvs : List (Key × V)} {ds : List D} : H a = some (.dK kvs) → Rps K Hd (kvs.map (·.2)) ds → Ow K Hd H a (.dict ((kvs.map fun p => keyD p.1).zip ds))
  | dT {a : Addr} {kvs : List (List Key × V)} {ds : List D} : H a = some (.dT kvs) → Rps K Hd (kvs.map (·.2)) ds → Ow K Hd H a (.dict ((kvs.map fun p => keysD p.1).zip ds))
section
variable {K : PySem.W.Frag} {H H' Hd Hd' : Hp} {v : V} {d : D} {vs : List V} {ds : List D} {a : Addr}
theorem Rp.tp (e : Ex Hd H) (h : Rp K Hd v d) : Tp K Hd H v d := by
  cases h with
  | non => exact .non
  | bl b => exact .bl b
  | int i => exact .int i
  | str x hz => exact .str x hz
  | lst h1 h2 hz => exact .lst (rd_mono e h1) h2 hz
  | scr h1 => exact .scr (Evl.ex_l e h1)
  | tup h1 h2 hz => exact .tup h1 h2 hz
  | kt h1 h2 hz => exact .kt h1 h2 hz
  | dK h1 h2 => exact .dK (fz_mono e h1).rd h2
  | dT h1 h2 => exact .dT (fz_mono e h1).rd h2
theorem Tp.rp (h : Tp K H H v d) (nd : ∀ kvs, d = .dict kvs → (∃ l, kvs = [(.none, .list l)]) ∨ ∃ l, kvs = [(.none, .tuple l)]) : Rp K H v d := by
  cases h with
  | non => exact .non
  | bl b => exact .bl b
  | int i => exact .int i
  | str x hz => exact .str x hz
  | lst h1 h2 hz => exact .lst h1 h2 hz
  | scr h1 => exact .scr h1
  | tup h1 h2 hz => exact .tup h1 h2 hz
  | kt h1 h2 hz => exact .kt h1 h2 hz
  | @dK a kvs ds h1 h2 =>
    exfalso
    obtain ⟨l, e⟩ : ∃ l, (kvs.map fun p => keyD p.1).zip ds = [(PyData.none, l)] := (nd _ rfl).elim (fun ⟨l, e⟩ => ⟨_, e⟩) fun ⟨l, e⟩ => ⟨_, e⟩
    cases kvs with
    | nil => cases e
    | cons p r =>
      cases ds with
      | nil => cases e
      | cons d ds =>
        have e1 : keyD p.1 = .none := congrArg Prod.fst (List.cons.inj e).1
        revert e1
        cases p.1 <;> (intro e1; cases e1)
  | @dT a kvs ds h1 h2 =>
    exfalso
    obtain ⟨l, e⟩ : ∃ l, (kvs.map fun p => keysD p.1).zip ds = [(PyData.none, l)] := (nd _ rfl).elim (fun ⟨l, e⟩ => ⟨_, e⟩) fun ⟨l, e⟩ => ⟨_, e⟩
    cases kvs with
    | nil => cases e
    | cons p r =>
      cases ds with
      | nil => cases e
      | cons d ds =>
        have e1 : keysD p.1 = .none := congrArg Prod.fst (List.cons.inj e).1
        cases e1
theorem Tp.mono (e1 : Ex Hd Hd') (e2 : Ex H H') (h : Tp K Hd H v d) : Tp K Hd' H' v d := by
  cases h with
  | non => exact .non
  | bl b => exact .bl b
  | int i => exact .int i
  | str x hz => exact .str x hz
  | lst h1 h2 hz => exact .lst (rd_mono e2 h1) (h2.mono e1) hz
  | scr h1 => exact .scr (Evl.ex_l e2 h1)
  | tup h1 h2 hz => exact .tup (tu_mono e1 h1) (h2.mono e1) hz
  | kt h1 h2 hz => exact .kt (e1 _ _ h1) (h2.mono e1) hz
  | dK h1 h2 => exact .dK (rd_mono e2 h1) (h2.mono e1)
  | dT h1 h2 => exact .dT (rd_mono e2 h1) (h2.mono e1)
theorem Ow.tp (h : Ow K Hd H a d) : Tp K Hd H (.ref a) d := by
  cases h with
  | lst h1 h2 hz => exact .lst (.of h1) h2 hz
  | dK h1 h2 => exact .dK (.of h1) h2
  | dT h1 h2 => exact .dT (.of h1) h2
theorem Ow.move (e1 : Ex Hd Hd') (e2 : ∀ o, H a = some o → H' a = some o) (h : Ow K Hd H a d) : Ow K Hd' H' a d := by
  cases h with
  | lst h1 h2 hz => exact .lst (e2 _ h1) (h2.mono e1) hz
  | dK h1 h2 => exact .dK (e2 _ h1) (h2.mono e1)
  | dT h1 h2 => exact .dT (e2 _ h1) (h2.mono e1)
theorem Ow.there (h : Ow K Hd H a d) : ∃ o, H a = some o := by
  cases h with
  | lst h1 _ _ => exact ⟨_, h1⟩
  | dK h1 _ => exact ⟨_, h1⟩
  | dT h1 _ => exact ⟨_, h1⟩
/-- the data heap with one object more -/
theorem ex_upd {o : HO} (h : Hd a = none) : Ex Hd (upd Hd a o) := Evl.Ex.new h
theorem Ow.settle {o : HO} (h : Ow K Hd H a d) (n : Hd a = none) (ho : H a = some o) (hl : ∃ xs, o = .lst xs) : Rp K (upd Hd a o) (.ref a) d := by
  obtain ⟨zs, rfl⟩ := hl
  cases h with
  | lst h1 h2 hz => rw [h1] at ho; cases ho; exact .lst (.of upd_same) (h2.mono (ex_upd n)) hz
  | dK h1 h2 => rw [h1] at ho; cases ho
  | dT h1 h2 => rw [h1] at ho; cases ho
/-- a list as it stands, a dict when it is locked -/
inductive Stl (H : Hp) (a : Addr) : HO → Hp → Prop
  | lst {xs : List V} : H a = some (.lst xs) → Stl H a (.lst xs) H
  | frz {u : HO} {od : Obj} : H a = some u → Stl H a (.frz od u) (upd H a (.frz od u))
theorem Ow.settle2 (h : Ow K Hd H a d) (n : Hd a = none) : Gh (fun H' => ∃ o, Stl H a o H' ∧ Rp K (upd Hd a o) (.ref a) d) H := by
  cases h with
  | lst h1 h2 hz => exact .here ⟨_, .lst h1, .lst (.of upd_same) (h2.mono (ex_upd n)) hz⟩
  | dK h1 h2 => exact .lock h1 trivial fun od => .here ⟨_, .frz h1, .dK ⟨od, upd_same⟩ (h2.mono (ex_upd n))⟩
  | dT h1 h2 => exact .lock h1 trivial fun od => .here ⟨_, .frz h1, .dT ⟨od, upd_same⟩ (h2.mono (ex_upd n))⟩
theorem Stl.at {o : HO} (s : Stl H a o H') : H' a = some o ∧ ∀ b, b ≠ a → H' b = H b := by
  cases s with
  | lst h => exact ⟨h, fun _ _ => rfl⟩
  | frz h => exact ⟨upd_same, fun b hb => upd_ne hb⟩
end

/-! ### the frame's promise, the state -/
/-- what stood at the entry; the data known there; the places and addresses of what the def may change for its caller -/
structure FC where
  H0 : Hp
  D0 : Hp
  io : List (Nat × Addr)
structure SR (K : PySem.W.Frag) (fc : FC) (O : List Nat) (ρ : Env) (Hd : Hp) (σ : L2.St) (H : Hp) : Prop where
  sub : Ex Hd H
  dat : Ex fc.D0 Hd
  frm : ∀ b o, fc.H0 b = some o → (∀ i, (i, b) ∉ fc.io) → H b = some o
  new : ∀ p o, Hd p = some o → fc.D0 p = none → fc.H0 p = none
  io : ∀ p ∈ fc.io, p.1 ∈ O ∧ σ[p.1]? = some (some (.ref p.2)) ∧ ∃ d, ρ[p.1]? = some (some d)
  val : ∀ (i : Nat) (d : D), ρ[i]? = some (some d) → ∃ v, σ[i]? = some (some v) ∧ (i ∉ O → Rp K Hd v d) ∧
    (i ∈ O → ∃ a, v = .ref a ∧ Hd a = none ∧ Ow K Hd H a d ∧ (fc.H0 a = none ∨ (i, a) ∈ fc.io))
  ap : ∀ (i j : Nat) (a : Addr) (d e : D), i ∈ O → j ∈ O → ρ[i]? = some (some d) → ρ[j]? = some (some e) → σ[i]? = some (some (.ref a)) → σ[j]? = some (some (.ref a)) → i = j
  len : ρ.length = σ.length
/-- the data heap and the heap grow by new objects alone -/
structure Gr (Hd H Hd' H' : Hp) : Prop where
  d : Ex Hd Hd'
  h : Ex H H'
  s : Ex Hd' H'
  n : ∀ p o, Hd' p = some o → Hd p = none → H p = none
section
variable {K : PySem.W.Frag} {fc : FC} {O O' : List Nat} {ρ ρ' : Env} {σ σ' : L2.St} {H H' H'' Hd Hd' Hd'' : Hp} {v : V} {d : D} {a : Addr} {i : Nat}
theorem Gr.refl (s : Ex Hd H) : Gr Hd H Hd H := ⟨Evl.Ex.refl _, Evl.Ex.refl _, s, fun p o h n => by rw [n] at h; cases h⟩
theorem Gr.trans (x : Gr Hd H Hd' H') (y : Gr Hd' H' Hd'' H'') : Gr Hd H Hd'' H'' := ⟨x.d.trans y.d, x.h.trans y.h, y.s, fun p o h n => by
  cases q : Hd' p with
  | some u => exact x.n p u q n
  | none => exact Evl.fresh_back x.h (y.n p o h q)⟩
/-- a new object that is data -/
theorem Gr.dat {p : Addr} {o : HO} (s : Ex Hd H) (hp : H p = none) : Gr Hd H (upd Hd p o) (upd H p o) := by
  have n : Hd p = none := Evl.fresh_back s hp
  refine ⟨ex_upd n, ex_upd hp, fun b u e => ?_, fun b u e z => ?_⟩
  · by_cases hb : b = p
    · subst hb
      rw [upd_same] at e ⊢
      exact e
    · rw [upd_ne hb] at e ⊢
      exact s b u e
  · by_cases hb : b = p
    · subst hb
      exact hp
    · rw [upd_ne hb, z] at e
      cases e
/-- a new object that is not data -/
theorem Gr.own {p : Addr} {o : HO} (s : Ex Hd H) (hp : H p = none) : Gr Hd H Hd (upd H p o) :=
  ⟨Evl.Ex.refl _, ex_upd hp, s.trans (ex_upd hp), fun b u e z => by rw [z] at e; cases e⟩
theorem SR.ios (S : SR K fc O ρ Hd σ H) {j : Nat} (h : (j, a) ∈ fc.io) : ∃ o, H a = some o ∧ Hd a = none := by
  obtain ⟨h1, h2, d, h3⟩ := S.io _ h
  obtain ⟨v, e, _, q⟩ := S.val _ _ h3
  obtain ⟨b, rfl, n, w, _⟩ := q h1
  rw [e] at h2
  cases h2
  obtain ⟨o, ho⟩ := w.there
  exact ⟨o, ho, n⟩
theorem SR.fresh (S : SR K fc O ρ Hd σ H) (h : H a = none) : fc.H0 a = none := by
  cases q : fc.H0 a with
  | none => rfl
  | some o =>
    by_cases hi : ∃ j, (j, a) ∈ fc.io
    · obtain ⟨j, hj⟩ := hi
      obtain ⟨o', e, _⟩ := S.ios hj
      rw [e] at h
      cases h
    · rw [S.frm a o q fun j hj => hi ⟨j, hj⟩] at h
      cases h
theorem SR.grow (S : SR K fc O ρ Hd σ H) (g : Gr Hd H Hd' H') : SR K fc O ρ Hd' σ H' where
  sub := g.s
  dat := S.dat.trans g.d
  frm := fun b o e n => g.h b o (S.frm b o e n)
  new := fun p o e n => by
    cases q : Hd p with
    | some u => exact S.new p u q n
    | none => exact S.fresh (g.n p o e q)
  io := S.io
  val := fun i d e => by
    obtain ⟨v, h1, h2, h3⟩ := S.val i d e
    refine ⟨v, h1, fun n => (h2 n).mono g.d, fun y => ?_⟩
    obtain ⟨a, rfl, n, w, f⟩ := h3 y
    refine ⟨a, rfl, ?_, w.move g.d fun o e => g.h a o e, f⟩
    cases q : Hd' a with
    | none => rfl
    | some o =>
      obtain ⟨u, hu⟩ := w.there
      rw [g.n a o q n] at hu
      cases hu
  ap := S.ap
  len := S.len
/-- what may be changed no more is data -/
theorem SR.settle (S : SR K fc (i :: O) ρ Hd σ H) (hn : ∀ p ∈ fc.io, p.1 ∈ O) : Gh (fun H' => ∃ Hd', SR K fc O ρ Hd' σ H' ∧ Ex Hd Hd') H := by
  by_cases hO : i ∈ O
  · refine .here ⟨Hd, ⟨S.sub, S.dat, S.frm, S.new, fun p hp => ⟨hn p hp, (S.io p hp).2⟩, fun j d e => ?_, fun j k a d e h1 h2 => S.ap j k a d e (.tail _ h1) (.tail _ h2), S.len⟩, Evl.Ex.refl _⟩
    obtain ⟨v, h1, h2, h3⟩ := S.val j d e
    exact ⟨v, h1, fun n => h2 fun z => n ((List.mem_cons.mp z).elim (fun q => q ▸ hO) id), fun y => h3 (.tail _ y)⟩
  cases q : (ρ[i]?).join with
  | none =>
    refine .here ⟨Hd, ⟨S.sub, S.dat, S.frm, S.new, fun p hp => ⟨hn p hp, (S.io p hp).2⟩, fun j d e => ?_, fun j k a d e h1 h2 => S.ap j k a d e (.tail _ h1) (.tail _ h2), S.len⟩, Evl.Ex.refl _⟩
    obtain ⟨v, h1, h2, h3⟩ := S.val j d e
    have ne : j ≠ i := fun z => by
      subst z
      rw [e] at q
      cases q
    exact ⟨v, h1, fun n => h2 fun z => (List.mem_cons.mp z).elim ne n, fun y => h3 (.tail _ y)⟩
  | some d0 =>
    have e0 : ρ[i]? = some (some d0) := by
      cases z : ρ[i]? with
      | none => rw [z] at q; cases q
      | some w =>
        cases w with
        | none => rw [z] at q; cases q
        | some w => rw [z] at q; cases q; rfl
    obtain ⟨v0, g1, _, g3⟩ := S.val i d0 e0
    obtain ⟨a, rfl, na, wa, fa⟩ := g3 List.mem_cons_self
    have f0 : fc.H0 a = none := by
      rcases fa with f | f
      · exact f
      · exact absurd (hn _ f) hO
    refine (wa.settle2 na).mono fun H2 ⟨o, st, rz⟩ => ?_
    obtain ⟨st1, st2⟩ := st.at
    refine ⟨upd Hd a o, ⟨?_, ?_, ?_, ?_, fun p hp => ⟨hn p hp, (S.io p hp).2⟩, ?_, fun j k a d e h1 h2 => S.ap j k a d e (.tail _ h1) (.tail _ h2), S.len⟩, ex_upd na⟩
    · intro b u e
      by_cases hb : b = a
      · subst hb
        rw [upd_same] at e
        cases e
        exact st1
      · rw [upd_ne hb] at e
        rw [st2 b hb]
        exact S.sub b u e
    · exact S.dat.trans (ex_upd na)
    · intro b u e n
      rw [st2 b (ne_of_none e f0)]
      exact S.frm b u e n
    · intro p u e n
      by_cases hb : p = a
      · subst hb
        exact f0
      · rw [upd_ne hb] at e
        exact S.new p u e n
    · intro j d e
      obtain ⟨v, h1, h2, h3⟩ := S.val j d e
      by_cases hj : j = i
      · subst hj
        rw [g1] at h1
        cases h1
        rw [e0] at e
        cases e
        exact ⟨_, g1, fun _ => rz, fun y => absurd y hO⟩
      · refine ⟨v, h1, fun n => (h2 fun z => (List.mem_cons.mp z).elim hj n).mono (ex_upd na), fun y => ?_⟩
        obtain ⟨b, rfl, nb, wb, fb⟩ := h3 (.tail _ y)
        have nab : b ≠ a := fun z => by
          subst z
          exact hj (S.ap j i b d d0 (.tail _ y) List.mem_cons_self e e0 h1 g1)
        exact ⟨b, rfl, by rw [upd_ne nab]; exact nb, wb.move (ex_upd na) fun _ e => by rw [st2 b nab]; exact e, fb⟩
theorem SR.perm (S : SR K fc O ρ Hd σ H) (h1 : ∀ j, j ∈ O ↔ j ∈ O') : SR K fc O' ρ Hd σ H :=
  ⟨S.sub, S.dat, S.frm, S.new, fun p hp => ⟨(h1 _).mp (S.io p hp).1, (S.io p hp).2⟩, fun j d e => by
    obtain ⟨v, a, b, c⟩ := S.val j d e
    exact ⟨v, a, fun n => b fun z => n ((h1 _).mp z), fun y => c ((h1 _).mpr y)⟩, fun i j a d e x y => S.ap i j a d e ((h1 _).mpr x) ((h1 _).mpr y), S.len⟩
theorem SR.drop : ∀ (l : List Nat) {Hd H : Hp}, SR K fc (l ++ O) ρ Hd σ H → (∀ p ∈ fc.io, p.1 ∈ O) → Gh (fun H' => ∃ Hd', SR K fc O ρ Hd' σ H' ∧ Ex Hd Hd') H
  | [], Hd, H, S, _ => .here ⟨Hd, S, Evl.Ex.refl _⟩
  | i :: l, Hd, H, S, h => (SR.settle S fun p hp => List.mem_append_right l (h p hp)).bind fun H1 ⟨Hd1, S1, e1⟩ => (SR.drop l S1 h).mono fun H2 ⟨Hd2, S2, e2⟩ => ⟨Hd2, S2, e1.trans e2⟩
/-- fewer that may be changed -/
theorem SR.weak (S : SR K fc O ρ Hd σ H) (O' : List Nat) (h : ∀ j ∈ O', j ∈ O) (hi : ∀ p ∈ fc.io, p.1 ∈ O') : Gh (fun H' => ∃ Hd', SR K fc O' ρ Hd' σ H' ∧ Ex Hd Hd') H :=
  SR.drop (O := O') (O.filter fun j => !O'.contains j) (S.perm fun j => by
    rw [List.mem_append, List.mem_filter]
    constructor
    · intro hj
      by_cases m : j ∈ O'
      · exact .inr m
      · exact .inl ⟨hj, by simpa using m⟩
    · rintro (⟨a, _⟩ | b)
      · exact a
      · exact h j b) hi
end
end PL

set_option Elab.async false
set_option linter.all false
set_option maxRecDepth 100000
namespace PL
open PySem PySem.Spec PyProof.Rows L2
/-! ### makers of tuples that are known to their objects -/
/-- what is wanted of a new tuple -/
abbrev NewT (H : Hp) (xs : List V) (Q : VK) : Prop := ∀ (p : Addr) (o : Obj), H p = none → o.dict = none → Q (.ref p) (upd H p (.frz o (.tup xs)))
section
variable {X : Cx} {pins : List (Addr × Obj)} {σ : L2.St} {H : Hp} {s : Shared} {es : List Expr} {t : TA} {pos : Pos}
/-- the object of a new tuple is laid -/
theorem new_tup {xs : List V} {its : Array Value} {tk : Nat} {Q : VK} (I : L2.Inv X pins σ H s) (r : Vals xs its.toList) (z : xs.length ≤ sizeLine) (q : NewT H xs Q) :
    EP X pins σ Q (.ref s.heap.objs.size) { s with heap := s.heap.push { cls := .type "tuple", data := .seq its }, toks := tk } := by
  refine ⟨.ref s.heap.objs.size, upd H s.heap.objs.size (.frz { cls := .type "tuple", data := .seq its } (.tup xs)), ?_, rfl, q _ _ (I.hok.fresh (Nat.le_refl _)) rfl⟩
  refine I.laid (t' := tk) (o := .frz { cls := .type "tuple", data := .seq its } (.tup xs)) (fun b ob w => Heap.get?_push_of_some _ w) (Nat.le_refl _) ?_
  exact ⟨Heap.get?_push_size _ rfl, z, its.toList, r, by rw [Array.toArray_toList]; exact IsTup.new _ _⟩
def tTupF (t : TA) : TE := fun σ H Q => t σ H fun xs H1 => xs.length ≤ sizeLine ∧ NewT H1 xs Q
theorem pe_tupF {x1} (h : PA X es t) : PE X (.Tuple es x1 pos) (tTupF t) := by
  refine ⟨fun pins s σ H Q I hq => wpAny_Tuple_spliced (thn (h.run pos pins s σ H _ I hq) fun us s1 ⟨xs, H1, I1, r, z, q⟩ => ⟨by rw [← r.length]; exact z, ?_⟩)⟩
  exact new_tup (tk := s1.toks) I1 r z q
def rSlF (K : PySem.W.Frag) : V → Option Int → Option Int → Hp → VK → Prop := fun x lo hi H Q => ∃ a xs, x = .ref a ∧ SqT K H a xs ∧
  ((HT.sIx xs.length 0 lo = 0 ∧ HT.sIx xs.length xs.length hi = xs.length) → Q (.ref a) H) ∧ (¬ (HT.sIx xs.length 0 lo = 0 ∧ HT.sIx xs.length xs.length hi = xs.length) → NewT H (cutV xs lo hi) Q)
theorem sl_tupF : SlR X (rSlF X.K) := by
  intro pins s σ H x v vl vu lo hi sl Q I rx hs pl pu h
  obtain ⟨a, xs, rfl, hx, q1, q2⟩ := h
  by_cases hw : HT.sIx xs.length 0 lo = 0 ∧ HT.sIx xs.length xs.length hi = xs.length
  · exact sl_tupA pins s σ H _ v vl vu lo hi sl Q I rx hs pl pu ⟨a, xs, rfl, hx, q1, fun n => absurd hw n⟩
  · cases rx
    obtain ⟨its, r, ht, hz⟩ := I.tuple hx
    have hlen : its.toArray.size = xs.length := by rw [List.size_toArray]; exact r.length.symm
    refine ⟨"tuple", _, PyProof.Rows.slot_tuple_getitem.lookup, ht.typeIs, HT.getItem_tuple_cut ht hs pl pu (by rw [hlen]; exact hw) ?_ (by rw [hlen]; exact hz)⟩
    rw [hlen]
    exact new_tup (tk := s.toks) I ((r.drop (HT.sIx xs.length 0 lo)).take (HT.sIx xs.length xs.length hi - HT.sIx xs.length 0 lo)) (Nat.le_trans (cutV_length xs lo hi) hz) (q2 hw)
/-- t + u -/
def rCatF (K : PySem.W.Frag) : R2 := fun x y H Q => ∃ a b xs ys, x = .ref a ∧ y = .ref b ∧ SqT K H a xs ∧ SqT K H b ys ∧ xs.length + ys.length ≤ sizeLine ∧
  (xs = [] → Q (.ref b) H) ∧ (xs ≠ [] → ys = [] → Q (.ref a) H) ∧ (xs ≠ [] → ys ≠ [] → NewT H (xs ++ ys) Q)
theorem op_catF : OpR X (binaryOp .Add) (rCatF X.K) := by
  intro pins s σ H x y v u Q I rx ry h
  obtain ⟨a, b, xs, ys, rfl, rfl, ha, hb, hz, q0, q1, q2⟩ := h
  by_cases hx : xs = []
  · exact op_catA pins s σ H _ _ v u Q I rx ry ⟨a, b, xs, ys, rfl, rfl, ha, hb, hz, q0, fun n => absurd hx n, fun n => absurd hx n⟩
  by_cases hy : ys = []
  · exact op_catA pins s σ H _ _ v u Q I rx ry ⟨a, b, xs, ys, rfl, rfl, ha, hb, hz, q0, q1, fun _ n => absurd hy n⟩
  cases rx
  cases ry
  obtain ⟨its, r1, p1, _⟩ := I.tuple ha
  obtain ⟨its2, r2, p2, _⟩ := I.tuple hb
  refine HT.cat_tup p1 p2 (fun z => hx (r1.nil_iff.mp z)) (fun z => absurd (r2.nil_iff.mp z) hy) (fun z => ?_) (by rw [← r1.length, ← r2.length]; exact hz)
  exact new_tup (tk := s.toks) I (r1.append r2) (by rw [List.length_append]; exact hz) (q2 hx hy)
/-- tuple(x) -/
theorem call_tupF : CallR X (.type "tuple") (fun xs H Q => ∃ p ys, xs = [.ref p] ∧ ((SqL X.K H p ys ∧ NewT H ys Q) ∨ (SqT X.K H p ys ∧ Q (.ref p) H))) := by
  intro pins s σ H xs us Q I r h
  obtain ⟨p, ys, rfl, ⟨hq, q⟩ | ⟨hq, q⟩⟩ := h
  · obtain ⟨u, rfl, rx⟩ := vals1 r
    cases rx
    obtain ⟨its, r', pl, hz⟩ := I.list hq
    refine call_tuple_list pl.isList (fun h' kp => ?_) (by rw [List.size_toArray, ← r'.length]; exact hz)
    exact new_tup (tk := s.toks) (I.kept (t' := s.toks) kp) r' hz q
  · exact call_tuple_of pins s σ H _ us Q I r ⟨p, ys, rfl, .inr ⟨hq, q⟩⟩
def tTupRgF (te : L2.St → Hp → (Int → Int → Hp → Prop) → Prop) : TE := fun σ H Q => te σ H fun a b H1 => RgOk a b ∧ NewT H1 (rgV a b) Q
theorem pe_tupRgF {e : Expr} {te : L2.St → Hp → (Int → Int → Hp → Prop) → Prop} {p pos : Pos} (hc : X.calm = true) (hg : Gl X "tuple") (hm : X.mg "tuple" = none) (he : PRg X e te)
    (na : starEach [e] X.env = (false, eval e X.env) :: starEach [] X.env := by rfl) : PE X (.Call (.Name "tuple" p) [e] [] pos) (tTupRgF te) := by
  refine ⟨fun pins s σ H Q I h => Call_ (ld_blt I hg hm boot_tuple (PyProof.Rows.callWith_type1 (args_cons (thn (he pins s σ H _ I h) fun x s1 ⟨r, a, b, t, u, v, H1, ex, hr, I1, ok, q⟩ => args_nil ?_) na) na))⟩
  subst ex
  obtain ⟨b1, b2, b3, b4, b5⟩ := ok
  refine call_tuple_range (n := (b - a).toNat) (I1.ok.hd hc) hr (small_one b1 b2 b3 b4) (rangeSize_nat a b) b5 fun h' tk acc hk hi => ?_
  exact new_tup (tk := tk) (I1.kept (t' := tk) hk) (vals_rg hi) (by rw [rgV_length, sizeLine_eq]; omega) q
end
end PL

set_option Elab.async false
set_option linter.all false
set_option maxRecDepth 100000
namespace PL
open PySem PySem.Spec PyProof.Rows L2

/-! ### data as the library reads it -/
section
variable {X : Cx} {pins : List (Addr × Obj)} {σ : L2.St} {H Hd : Hp} {s : Shared}
theorem key_reads {P : Program} {w : World} {h : Heap} {k : Key} {u : Value} (e : (mixKind P w).is k u = true) : Reads h u (keyD k) [] := by
  rcases keyIs_shape (show keyIs k u = true from e) with ⟨i, t, rfl, rfl⟩ | ⟨x, t, rfl, rfl⟩
  · exact .int i t
  · exact .str x t
theorem keys_reads {P : Program} {w : World} {h : Heap} : ∀ {ks : List Key} {us : List Value}, ItemsAre (mixKind P w) ks us → ReadsAll h us (ks.map keyD) []
  | [], _, .nil => .nil
  | _ :: _, _, .cons e t => by
    have r := ReadsAll.cons (key_reads (h := h) e) (keys_reads t)
    exact r
/-! no script within -/
mutual
def cln : D → Bool
  | .list ds | .tuple ds => clnAll ds
  | .dict kvs => clnKv kvs
  | _ => true
def clnAll : List D → Bool
  | [] => true
  | d :: ds => cln d && clnAll ds
def clnKv : List (D × D) → Bool
  | [] => true
  | (.none, _) :: _ => false
  | (_, v) :: r => cln v && clnKv r
end
theorem clnKv_zip : ∀ {ks : List D} {ds : List D}, ks.length = ds.length → clnKv (ks.zip ds) = true → clnAll ds = true
  | [], [], _, _ => rfl
  | k :: ks, d :: ds, h, e => by
    have e0 : clnKv ((k, d) :: ks.zip ds) = true := e
    have e1 : (cln d && clnKv (ks.zip ds)) = true := by
      cases k with
      | none => simp [clnKv] at e0
      | _ => simpa [clnKv] using e0
    have e2 := Bool.and_eq_true_iff.mp e1
    rw [clnAll, e2.1, clnKv_zip (Nat.succ.inj h) e2.2]
    rfl
mutual
theorem cln_plain : ∀ d : D, d.plain = true → cln d = true
  | .none, _ => rfl
  | .bool _, _ => rfl
  | .int _, _ => rfl
  | .str _, _ => rfl
  | .list ds, h => by
    rw [cln]
    exact cln_plainAll ds (by simpa [PyData.plain] using h)
  | .tuple ds, h => by
    rw [cln]
    exact cln_plainAll ds (by simpa [PyData.plain] using h)
  | .dict _, h => by simp [PyData.plain] at h
theorem cln_plainAll : ∀ ds : List D, PyData.plainAll ds = true → clnAll ds = true
  | [], _ => rfl
  | d :: ds, h => by
    have h' : d.plain = true ∧ PyData.plainAll ds = true := by simpa [PyData.plainAll] using h
    rw [clnAll, cln_plain d h'.1, cln_plainAll ds h'.2]
    rfl
end
theorem dict_reads {a : Addr} {h : Heap} {kvs : List (Key × V)} {vs : List (Key × Value)} {ds : List D} {P : Program} {w : World} (rel : KV kvs vs) (dd : h.DictOf (mixKind P w) a vs) (q : ∃ bs, ReadsAll h (vs.map (·.2)) ds bs) :
    ∃ as, Reads h (.ref a) (.dict ((kvs.map fun p => keyD p.1).zip ds)) as := by
  obtain ⟨o, es, ep, ho, hx, hd, _, hp, hnd⟩ := dd
  clear hnd
  obtain ⟨bs, q⟩ := q
  have ek : ∃ as, ReadsAll h (es.toList.map (·.key)) (kvs.map fun p => keyD p.1) as := by
    rw [show (kvs.map fun p => keyD p.1) = (vs.map fun p => keyD p.1) by
      have z := rel.keys
      rw [show (kvs.map fun p => keyD p.1) = (kvs.map (·.1)).map keyD by rw [List.map_map]; rfl, z, List.map_map]
      rfl]
    clear q rel
    generalize es.toList = l at hp
    induction hp with
    | nil => exact ⟨_, .nil⟩
    | cons e1 e2 t ih =>
      obtain ⟨as, r⟩ := ih
      exact ⟨_, .cons (key_reads e1) r⟩
  have ev : es.toList.map (·.val) = vs.map (·.2) := by
    clear q rel ek
    generalize es.toList = l at hp
    induction hp with
    | nil => rfl
    | cons e1 e2 t ih => rw [List.map_cons, List.map_cons, ih, e2]
  obtain ⟨as, r⟩ := ek
  have lk : (kvs.map fun p => keyD p.1).length = ds.length := by
    have l1 := rel.length
    have l2 := SeqAt.ReadsAll.length _ _ _ q
    rw [List.length_map] at l2 ⊢
    omega
  refine ⟨_, Reads.dict (as := as) (bs := bs) ho hx.1 hd ?_ ?_⟩
  · rw [List.map_fst_zip (by omega)]
    exact r
  · rw [List.map_snd_zip (by omega), ev]
    exact q
theorem dictT_reads {a : Addr} {h : Heap} {kvs : List (List Key × V)} {xs : List (List Key × Addr × Value)} {ds : List D} {P : Program} {w : World} (rel : KT H kvs xs) (dd : h.DictOfH (tupleKind (mixKind P w)) a xs) (q : ∃ bs, ReadsAll h (xs.map (·.2.2)) ds bs) :
    ∃ as, Reads h (.ref a) (.dict ((kvs.map fun p => keysD p.1).zip ds)) as := by
  obtain ⟨o, es, ep, ho, hx, hd, he, hk, hnd⟩ := dd
  clear hnd
  obtain ⟨bs, q⟩ := q
  have lk : kvs.length = xs.length := Paired.length rel
  have l2 := SeqAt.ReadsAll.length _ _ _ q
  rw [List.length_map] at l2
  have ek : ∃ as, ReadsAll h (xs.map fun x => Value.ref x.2.1) (kvs.map fun p => keysD p.1) as := by
    clear q he l2
    induction rel with
    | nil => exact ⟨_, .nil⟩
    | @cons p x ps xs' hq t ih =>
      obtain ⟨as, r⟩ := ih (fun y hy => hk y (.tail _ hy)) (Paired.length t)
      obtain ⟨oo, items, n, h1, h2, h3, h4⟩ := hk x List.mem_cons_self
      have kr := keys_reads (P := P) (w := w) (h := h) h4
      rw [← hq.1] at kr
      exact ⟨_, ReadsAll.cons (Reads.tuple h1 h2 h3 kr) r⟩
  obtain ⟨as, r⟩ := ek
  refine ⟨_, Reads.dict (as := as) (bs := bs) ho hx.1 hd ?_ ?_⟩
  · rw [List.map_fst_zip (by rw [List.length_map]; omega), he, List.map_map]
    exact r
  · rw [List.map_snd_zip (by rw [List.length_map]; omega), he, List.map_map]
    exact q
theorem kv_vals {kvs : List (Key × V)} {vs : List (Key × Value)} (r : KV kvs vs) : Vals (kvs.map (·.2)) (vs.map (·.2)) := by
  induction r with
  | nil => exact .nil
  | cons h _ ih => exact .cons h.2 ih
theorem kt_vals {kvs : List (List Key × V)} {xs : List (List Key × Addr × Value)} (r : KT H kvs xs) : Vals (kvs.map (·.2)) (xs.map (·.2.2)) := by
  induction r with
  | nil => exact .nil
  | cons h _ ih => exact .cons h.2.2 ih
theorem Rp.reads (I : Inv X pins σ H s) {v : V} {d : D} (h : Rp X.K H v d) : cln d = true → ∀ u, RelV v u → ∃ as, Reads s.heap u d as := by
  refine Rp.rec (motive_1 := fun v d _ => cln d = true → ∀ u, RelV v u → ∃ as, Reads s.heap u d as) (motive_2 := fun vs ds _ => clnAll ds = true → ∀ us, Vals vs us → ∃ as, ReadsAll s.heap us ds as) ?_ ?_ ?_ ?_ ?_ ?_ ?_ ?_ ?_ ?_ ?_ ?_ h
  · intro _ u r; cases r; exact ⟨_, .none⟩
  · intro b _ u r; cases r; exact ⟨_, .bool b⟩
  · intro i _ u r; obtain ⟨t, rfl⟩ := r; exact ⟨_, .int i t⟩
  · intro x _ _ u r; obtain ⟨t, rfl⟩ := r; exact ⟨_, .str x t⟩
  · intro a xs ds h1 _ _ ih c u r
    cases r
    obtain ⟨its, rv, ⟨o, n, ho, hc, _, hd⟩, _⟩ := I.list (.inl h1)
    obtain ⟨as, q⟩ := ih (by simpa [cln] using c) its rv
    exact ⟨_, Reads.list ho hc hd q⟩
  · intro a ns _ c
    simp [cln, clnKv] at c
  · intro a xs ds h1 _ _ ih c u r
    cases r
    obtain ⟨its, rv, ⟨o, ho, hc, n, hd⟩, _⟩ := I.tuple h1.sq
    obtain ⟨as, q⟩ := ih (by simpa [cln] using c) its rv
    exact ⟨_, Reads.tuple ho hc hd q⟩
  · intro a xs ds _ _ _ _ c
    simp [cln, clnKv] at c
  · intro a kvs ds h1 h2 ih c u r
    cases r
    obtain ⟨_, _, vs, rel, dd⟩ := dk_rd I.hok h1.rd
    have hl := h2.length
    rw [List.length_map] at hl
    exact dict_reads rel dd (ih (clnKv_zip (ks := kvs.map fun p => keyD p.1) (by rw [List.length_map]; exact hl) (by simpa [cln] using c)) _ (kv_vals rel))
  · intro a kvs ds h1 h2 ih c u r
    cases r
    obtain ⟨_, _, xs, rel, dd⟩ := dt_rd I.hok h1.rd
    have hl := h2.length
    rw [List.length_map] at hl
    exact dictT_reads rel dd (ih (clnKv_zip (ks := kvs.map fun p => keysD p.1) (by rw [List.length_map]; exact hl) (by simpa [cln] using c)) _ (kt_vals rel))
  · intro _ us r; cases r; exact ⟨_, .nil⟩
  · intro v vs d ds _ _ ih1 ih2 c us r
    rw [clnAll] at c
    have c' := Bool.and_eq_true_iff.mp c
    cases r with
    | cons r1 r2 =>
      obtain ⟨as, q1⟩ := ih1 c'.1 _ r1
      obtain ⟨bs, q2⟩ := ih2 c'.2 _ r2
      exact ⟨_, .cons q1 q2⟩
theorem Rps.reads (I : Inv X pins σ H s) {vs : List V} {ds : List D} (h : Rps X.K H vs ds) (c : clnAll ds = true) {us : List Value} (r : Vals vs us) : ∃ as, ReadsAll s.heap us ds as := by
  induction ds generalizing vs us with
  | nil => cases h; cases r; exact ⟨_, .nil⟩
  | cons d ds ih =>
    rw [clnAll] at c
    have c' := Bool.and_eq_true_iff.mp c
    cases h with
    | cons h1 h2 =>
      cases r with
      | cons r1 r2 =>
        obtain ⟨as, q1⟩ := h1.reads I c'.1 _ r1
        obtain ⟨bs, q2⟩ := ih h2 c'.2 r2
        exact ⟨_, .cons q1 q2⟩
/-- the top of H, the rest of Hd -/
theorem Tp.deep {K : PySem.W.Frag} (e : Ex Hd H) {v : V} {d : D} (h : Tp K Hd H v d) (nd : d.plain = true) : Rp K H v d := (h.mono e (Evl.Ex.refl H)).rp fun kvs q => by
  subst q
  simp [PyData.plain] at nd
end

/-! ### what an expression means: three ways of holding its value -/
inductive Md where
  | bor | dat | fre
def Res (K : PySem.W.Frag) (m : Md) (H Hd' H' : Hp) (v : V) (d : D) : Prop :=
  match m with
  | .bor => Tp K Hd' H' v d
  | .dat => Rp K Hd' v d
  | .fre => ∃ p, v = .ref p ∧ H p = none ∧ Hd' p = none ∧ Ow K Hd' H' p d
/-- without an effect -/
def tP (K : PySem.W.Frag) (m : Md) (O : List Nat) (f : Env → Option D) : TE := fun σ H Q =>
  ∃ fc ρ Hd d, SR K fc O ρ Hd σ H ∧ f ρ = some d ∧ ∀ v Hd' H', Gr Hd H Hd' H' → Res K m H Hd' H' v d → Q v H'
/-- with an effect on what may be changed -/
def tE (K : PySem.W.Frag) (O : List Nat) (f : Env → Option (D × Env)) : TE := fun σ H Q =>
  ∃ fc ρ Hd d ρ', SR K fc O ρ Hd σ H ∧ f ρ = some (d, ρ') ∧ ∀ v Hd' H', SR K fc O ρ' Hd' σ H' → Ex Hd Hd' → Rp K Hd' v d → Q v H'
def tPs (K : PySem.W.Frag) (m : Md) (O : List Nat) (f : Env → Option (List D)) : TA := fun σ H Q =>
  ∃ fc ρ Hd ds, SR K fc O ρ Hd σ H ∧ f ρ = some ds ∧ ∀ vs Hd' H', Gr Hd H Hd' H' → (match m with
    | .bor => Paired (Tp K Hd' H') vs ds
    | _ => Rps K Hd' vs ds) → Q vs H'
def tEs (K : PySem.W.Frag) (O : List Nat) (f : Env → Option (List D × Env)) : TA := fun σ H Q =>
  ∃ fc ρ Hd ds ρ', SR K fc O ρ Hd σ H ∧ f ρ = some (ds, ρ') ∧ ∀ vs Hd' H', SR K fc O ρ' Hd' σ H' → Ex Hd Hd' → Rps K Hd' vs ds → Q vs H'
def tPT (K : PySem.W.Frag) (O : List Nat) (f : Env → Option Bool) : TT := fun σ H Q =>
  ∃ fc ρ Hd b, SR K fc O ρ Hd σ H ∧ f ρ = some b ∧ ∀ Hd' H', Gr Hd H Hd' H' → Q b H'
def tET (K : PySem.W.Frag) (O : List Nat) (f : Env → Option (Bool × Env)) : TT := fun σ H Q =>
  ∃ fc ρ Hd b ρ', SR K fc O ρ Hd σ H ∧ f ρ = some (b, ρ') ∧ ∀ Hd' H', SR K fc O ρ' Hd' σ H' → Ex Hd Hd' → Q b H'

/-! ### the meanings' words -/
def var (i : Nat) : Env → Option D := fun ρ => (ρ[i]?).join
def cst (d : D) : Env → Option D := fun _ => some d
def op1 (g : D → Option D) (a : Env → Option D) : Env → Option D := fun ρ => (a ρ).bind g
def op2 (g : D → D → Option D) (a b : Env → Option D) : Env → Option D := fun ρ => (a ρ).bind fun x => (b ρ).bind fun y => g x y
def fn (g : List D → Option D) (a : Env → Option (List D)) : Env → Option D := fun ρ => (a ρ).bind g
def anil : Env → Option (List D) := fun _ => some []
def acons (a : Env → Option D) (r : Env → Option (List D)) : Env → Option (List D) := fun ρ => (a ρ).bind fun x => (r ρ).bind fun xs => some (x :: xs)
def up {α : Type} (f : Env → Option α) : Env → Option (α × Env) := fun ρ => (f ρ).bind fun d => some (d, ρ)
def op1E (g : D → Option D) (a : Env → Option (D × Env)) : Env → Option (D × Env) := fun ρ => (a ρ).bind fun x => (g x.1).bind fun z => some (z, x.2)
def op2E (g : D → D → Option D) (a b : Env → Option (D × Env)) : Env → Option (D × Env) := fun ρ => (a ρ).bind fun x => (b x.2).bind fun y => (g x.1 y.1).bind fun z => some (z, y.2)
def fnE (g : List D → Option D) (a : Env → Option (List D × Env)) : Env → Option (D × Env) := fun ρ => (a ρ).bind fun x => (g x.1).bind fun z => some (z, x.2)
def anilE : Env → Option (List D × Env) := fun ρ => some ([], ρ)
def aconsE (a : Env → Option (D × Env)) (r : Env → Option (List D × Env)) : Env → Option (List D × Env) := fun ρ => (a ρ).bind fun x => (r x.2).bind fun xs => some (x.1 :: xs.1, xs.2)

section
variable {X : Cx} {e a b : Expr} {t t' : TE} {m : Md} {O : List Nat} {f g : Env → Option D} {fe ge : Env → Option (D × Env)} {pos : Pos}
theorem PE.imp (h : PE X e t) (w : ∀ σ H Q, t' σ H Q → t σ H Q) : PE X e t' := ⟨fun pins s σ H Q I q => h.run pins s σ H Q I (w σ H Q q)⟩
theorem PA.imp {es : List Expr} {t t' : TA} (h : PA X es t) (w : ∀ σ H Q, t' σ H Q → t σ H Q) : PA X es t' := ⟨fun pos pins s σ H Q I q => h.run pos pins s σ H Q I (w σ H Q q)⟩
theorem PT.imp {t t' : TT} (h : PT X e t) (w : ∀ σ H Q, t' σ H Q → t σ H Q) : PT X e t' := ⟨fun pins s σ H Q I q => h.run pins s σ H Q I (w σ H Q q)⟩
theorem PW.imp {t t' : TT} (h : PW X e t) (w : ∀ σ H Q, t' σ H Q → t σ H Q) : PW X e t' := ⟨fun wh pins s σ H Q I q => h.run wh pins s σ H Q I (w σ H Q q)⟩
theorem PS.imp {st : Stmt} {t t' : TS} (h : PS X st t) (w : ∀ D σ H, t' D σ H → t D σ H) : PS X st t' := ⟨fun pins s σ H D I q => h.run pins s σ H D I (w D σ H q)⟩
theorem PSs.imp {st : List Stmt} {t t' : TS} (h : PSs X st t) (w : ∀ D σ H, t' D σ H → t D σ H) : PSs X st t' := ⟨fun pins s σ H D I q => h.run pins s σ H D I (w D σ H q)⟩
theorem p_dat (h : PE X e (tP X.K .dat O f)) : PE X e (tP X.K .bor O f) := PE.imp h fun σ H Q ⟨fc, ρ, Hd, d, S, hf, q⟩ =>
  ⟨fc, ρ, Hd, d, S, hf, fun v Hd' H' g r => q v Hd' H' g (Rp.tp g.s r)⟩
/-- a new object becomes data -/
theorem settle_gr {K : PySem.W.Frag} {H Hd Hd' H' : Hp} {p : Addr} {d : D} (g : Gr Hd H Hd' H') (np : H p = none) (nd : Hd' p = none) (w : Ow K Hd' H' p d) : Gh (fun H2 => ∃ Hd2, Gr Hd H Hd2 H2 ∧ Rp K Hd2 (.ref p) d) H' := by
  refine (w.settle2 nd).mono fun H2 ⟨o, st, rz⟩ => ?_
  obtain ⟨s1, s2⟩ := st.at
  refine ⟨upd Hd' p o, ⟨g.d.trans (ex_upd nd), fun b u eb => ?_, fun b u eb => ?_, fun b u eb nb => ?_⟩, rz⟩
  · rw [s2 b (ne_of_none eb np)]
    exact g.h b u eb
  · by_cases hb : b = p
    · subst hb
      rw [upd_same] at eb
      cases eb
      exact s1
    · rw [upd_ne hb] at eb
      rw [s2 b hb]
      exact g.s b u eb
  · by_cases hb : b = p
    · subst hb
      exact np
    · rw [upd_ne hb] at eb
      exact g.n b u eb nb
theorem p_fre (h : PE X e (tP X.K .fre O f)) : PE X e (tP X.K .dat O f) := PE.imp (PE.gh h) fun σ H Q ⟨fc, ρ, Hd, d, S, hf, q⟩ =>
  ⟨fc, ρ, Hd, d, S, hf, fun v Hd' H' g ⟨p, ev, np, nd, w⟩ => by
    subst ev
    exact (settle_gr g np nd w).mono fun H2 ⟨Hd2, g2, r2⟩ => q _ Hd2 H2 g2 r2⟩
theorem p_up (h : PE X e (tP X.K .dat O f)) : PE X e (tE X.K O (up f)) := PE.imp h fun σ H Q ⟨fc, ρ, Hd, d, ρ', S, hf, q⟩ => by
  unfold up at hf
  cases hq : f ρ with
  | none => rw [hq] at hf; cases hf
  | some d0 =>
    rw [hq] at hf
    cases hf
    exact ⟨fc, ρ, Hd, d, S, hq, fun v Hd' H' g r => q v Hd' H' (S.grow g) g.d r⟩
/-- a name that holds data -/
theorem p_var {i : Nat} {x : Str} (h : PE X (.Name x pos) (tVar i)) (hO : O.contains i = false := by rfl) : PE X (.Name x pos) (tP X.K .dat O (var i)) := PE.imp h fun σ H Q ⟨fc, ρ, Hd, d, S, hf, q⟩ => by
  have e : ρ[i]? = some (some d) := by
    unfold var at hf
    cases z : ρ[i]? with
    | none => rw [z] at hf; cases hf
    | some w =>
      rw [z] at hf
      have hf' : w = some d := hf
      rw [hf']
  obtain ⟨v, ev, h1, _⟩ := S.val i d e
  exact ⟨v, ev, q v Hd H (Gr.refl S.sub) (h1 fun z => by rw [List.contains_iff_mem.mpr z] at hO; cases hO)⟩
/-- a name, to be looked at -/
theorem p_varB {i : Nat} {x : Str} (h : PE X (.Name x pos) (tVar i)) : PE X (.Name x pos) (tP X.K .bor O (var i)) := PE.imp h fun σ H Q ⟨fc, ρ, Hd, d, S, hf, q⟩ => by
  have e : ρ[i]? = some (some d) := by
    unfold var at hf
    cases z : ρ[i]? with
    | none => rw [z] at hf; cases hf
    | some w =>
      rw [z] at hf
      have hf' : w = some d := hf
      rw [hf']
  obtain ⟨v, ev, h1, h2⟩ := S.val i d e
  refine ⟨v, ev, q v Hd H (Gr.refl S.sub) ?_⟩
  by_cases hO : i ∈ O
  · obtain ⟨a, rfl, _, w, _⟩ := h2 hO
    exact w.tp
  · exact (h1 hO).tp S.sub
/-- a written value -/
theorem p_cst {v : V} {d : D} (h : PE X e (tC v)) (r : ∀ K H, Rp K H v d) : PE X e (tP X.K .dat O (cst d)) := PE.imp h fun σ H Q ⟨fc, ρ, Hd, d', S, hf, q⟩ => by
  cases hf
  exact q v Hd H (Gr.refl S.sub) (r _ _)
theorem p_int {i : Int} {j} : PE X (.Constant (.int i) j pos) (tP X.K .dat O (cst (.int i))) := p_cst pe_int fun _ _ => .int i
theorem p_bl {i : Bool} {j} : PE X (.Constant (.bool i) j pos) (tP X.K .dat O (cst (.bool i))) := p_cst pe_bl fun _ _ => .bl i
theorem p_str {i : Str} {j} (hz : i.length ≤ sizeLine := by decide) : PE X (.Constant (.str i) j pos) (tP X.K .dat O (cst (.str i))) := p_cst pe_str fun _ _ => .str i hz
theorem p_non {j} : PE X (.Constant .none j pos) (tP X.K .dat O (cst .none)) := p_cst pe_non fun _ _ => .non

/-! ### operators by values -/
def isLst : D → Bool
  | .list _ => true
  | _ => false
theorem ow_lst {K : PySem.W.Frag} {H Hd : Hp} {p : Addr} {d : D} {o : HO} (w : Ow K Hd H p d) (ho : H p = some o) (h : isLst d = true) : ∃ xs, o = .lst xs := by
  cases w with
  | lst h1 _ _ => rw [h1] at ho; cases ho; exact ⟨_, rfl⟩
  | dK h1 _ => cases h
  | dT h1 _ => cases h
def Op2 (K : PySem.W.Frag) (r : R2) (g : D → D → Option D) (m : Md) : Prop := ∀ (Hd H : Hp) (x y : V) (d e z : D) (Q : VK), Ex Hd H → Tp K Hd H x d → Tp K Hd H y e → g d e = some z →
  (∀ v Hd' H', Gr Hd H Hd' H' → Res K m H Hd' H' v z → Q v H') → r x y H Q
def Op1 (K : PySem.W.Frag) (r : V → Hp → VK → Prop) (g : D → Option D) (m : Md) : Prop := ∀ (Hd H : Hp) (x : V) (d z : D) (Q : VK), Ex Hd H → Tp K Hd H x d → g d = some z →
  (∀ v Hd' H', Gr Hd H Hd' H' → Res K m H Hd' H' v z → Q v H') → r x H Q
def OpN (K : PySem.W.Frag) (r : List V → Hp → VK → Prop) (g : List D → Option D) (m : Md) : Prop := ∀ (Hd H : Hp) (xs : List V) (ds : List D) (z : D) (Q : VK), Ex Hd H → Paired (Tp K Hd H) xs ds → g ds = some z →
  (∀ v Hd' H', Gr Hd H Hd' H' → Res K m H Hd' H' v z → Q v H') → r xs H Q
theorem Res.lift {K : PySem.W.Frag} {H H1 Hd Hd1 Hd' H' : Hp} {v : V} {z : D} (g : Gr Hd H Hd1 H1) (r : Res K m H1 Hd' H' v z) : Res K m H Hd' H' v z := by
  cases m with
  | bor => exact r
  | dat => exact r
  | fre =>
    obtain ⟨p, e, n, q⟩ := r
    exact ⟨p, e, Evl.fresh_back g.h n, q⟩
theorem t_op2 {K : PySem.W.Frag} {r : R2} {ta tb : TE} {k : D → D → Option D} (hk : Op2 K r k m) (ha : ∀ σ H Q, tP K .bor O f σ H Q → ta σ H Q) (hb : ∀ σ H Q, tP K .bor O g σ H Q → tb σ H Q) :
    ∀ σ H Q, tP K m O (op2 k f g) σ H Q → tOp r ta tb σ H Q := fun σ H Q ⟨fc, ρ, Hd, z, S, hf, q⟩ => by
  unfold op2 at hf
  cases h1 : f ρ with
  | none => rw [h1] at hf; cases hf
  | some x =>
    rw [h1] at hf
    cases h2 : g ρ with
    | none => rw [Option.bind_some, h2] at hf; cases hf
    | some y =>
      rw [Option.bind_some, h2, Option.bind_some] at hf
      refine ha _ _ _ ⟨fc, ρ, Hd, x, S, h1, fun v1 Hd1 H1 g1 r1 => hb _ _ _ ⟨fc, ρ, Hd1, y, S.grow g1, h2, fun v2 Hd2 H2 g2 r2 => ?_⟩⟩
      exact hk Hd2 H2 v1 v2 x y z Q g2.s (Tp.mono g2.d g2.h r1) r2 hf fun v Hd' H' g3 r3 => q v Hd' H' ((g1.trans g2).trans g3) (Res.lift (g1.trans g2) r3)
theorem t_op2E {K : PySem.W.Frag} {r : R2} {ta tb : TE} {k : D → D → Option D} (hk : Op2 K r k .dat) (ha : ∀ σ H Q, tE K O fe σ H Q → ta σ H Q) (hb : ∀ σ H Q, tE K O ge σ H Q → tb σ H Q) :
    ∀ σ H Q, tE K O (op2E k fe ge) σ H Q → tOp r ta tb σ H Q := fun σ H Q ⟨fc, ρ, Hd, z, ρ', S, hf, q⟩ => by
  unfold op2E at hf
  cases h1 : fe ρ with
  | none => rw [h1] at hf; cases hf
  | some x =>
    rw [h1] at hf
    cases h2 : ge x.2 with
    | none => rw [Option.bind_some, h2] at hf; cases hf
    | some y =>
      rw [Option.bind_some, h2, Option.bind_some] at hf
      cases h3 : k x.1 y.1 with
      | none => rw [h3] at hf; cases hf
      | some w =>
        rw [h3] at hf
        cases hf
        refine ha _ _ _ ⟨fc, ρ, Hd, x.1, x.2, S, h1, fun v1 Hd1 H1 S1 e1 r1 => hb _ _ _ ⟨fc, x.2, Hd1, y.1, y.2, S1, h2, fun v2 Hd2 H2 S2 e2 r2 => ?_⟩⟩
        exact hk Hd2 H2 v1 v2 x.1 y.1 _ Q S2.sub ((r1.mono e2).tp S2.sub) (r2.tp S2.sub) h3 fun v Hd' H' g3 r3 => q v Hd' H' (S2.grow g3) ((e1.trans e2).trans g3.d) r3
theorem Op2.dat {K : PySem.W.Frag} {r : R2} {k : D → D → Option D} (h : Op2 K r k .fre) (hl : ∀ d e z, k d e = some z → isLst z = true) : Op2 K r k .dat := fun Hd H x y d e z Q eh tx ty hk q =>
  h Hd H x y d e z Q eh tx ty hk fun v Hd' H' g ⟨p, ev, np, nd, w⟩ => by
    subst ev
    obtain ⟨o, ho⟩ := w.there
    have hll := ow_lst w ho (hl _ _ _ hk)
    refine q _ (upd Hd' p o) H' ⟨g.d.trans (ex_upd nd), g.h, fun b u eb => ?_, fun b u eb nb => ?_⟩ (w.settle nd ho hll)
    · by_cases hb : b = p
      · subst hb
        rw [upd_same] at eb
        cases eb
        exact ho
      · rw [upd_ne hb] at eb
        exact g.s b u eb
    · by_cases hb : b = p
      · subst hb
        exact np
      · rw [upd_ne hb] at eb
        exact g.n b u eb nb
theorem p_bin {op : Operator} {r : R2} {k : D → D → Option D} (ho : OpR X (binaryOp op) r) (hk : Op2 X.K r k m) (ha : PE X a (tP X.K .bor O f)) (hb : PE X b (tP X.K .bor O g)) : PE X (.BinOp a op b pos) (tP X.K m O (op2 k f g)) :=
  PE.imp (pe_op ho ha hb) (t_op2 hk (fun _ _ _ h => h) fun _ _ _ h => h)
theorem p_binE {op : Operator} {r : R2} {k : D → D → Option D} (ho : OpR X (binaryOp op) r) (hk : Op2 X.K r k .dat) (ha : PE X a (tE X.K O fe)) (hb : PE X b (tE X.K O ge)) : PE X (.BinOp a op b pos) (tE X.K O (op2E k fe ge)) :=
  PE.imp (pe_op ho ha hb) (t_op2E hk (fun _ _ _ h => h) fun _ _ _ h => h)
theorem p_cmp {op : CmpOp} {r : R2} {k : D → D → Option D} (ho : OpR X (compareOp op) r) (hk : Op2 X.K r k m) (ha : PE X a (tP X.K .bor O f)) (hb : PE X b (tP X.K .bor O g)) (hm : behindInMarks op b = false) : PE X (.Compare a [op] [b] pos) (tP X.K m O (op2 k f g)) :=
  PE.imp (pe_cmpR ho ha hb hm) (t_op2 hk (fun _ _ _ h => h) fun _ _ _ h => h)
theorem p_cmpE {op : CmpOp} {r : R2} {k : D → D → Option D} (ho : OpR X (compareOp op) r) (hk : Op2 X.K r k .dat) (ha : PE X a (tE X.K O fe)) (hb : PE X b (tE X.K O ge)) (hm : behindInMarks op b = false) : PE X (.Compare a [op] [b] pos) (tE X.K O (op2E k fe ge)) :=
  PE.imp (pe_cmpR ho ha hb hm) (t_op2E hk (fun _ _ _ h => h) fun _ _ _ h => h)
end
end PL

set_option Elab.async false
set_option linter.all false
set_option maxRecDepth 100000
namespace PL
open PySem PySem.Spec PyProof.Rows L2 PySem.W

/-! ### what the operators give -/
def okD (d : D) : Bool := d.plain && decide (d.depth ≤ 60)
def nonN : D → Bool
  | .none => false
  | _ => true
def eqB (d e : D) : Option Bool := if okD d && okD e then some (PyData.eqv d e) else none
def neB (d e : D) : Option Bool := if okD d && okD e then some (!PyData.eqv d e) else none
def ltB (d e : D) : Option Bool := if alike d e && nonN d && okD d && okD e then some (dataLt d e) else none
def gtB (d e : D) : Option Bool := if alike d e && nonN d && okD d && okD e then some (dataLt e d) else none
def leB (d e : D) : Option Bool := if alike d e && nonN d && okD d && okD e then some (!dataLt e d) else none
def geB (d e : D) : Option Bool := if alike d e && nonN d && okD d && okD e then some (!dataLt d e) else none
/-- what a dict has at a key -/
def dgetD (kvs : List (D × D)) (k : D) : Option D := (kvs.find? fun p => PyData.eqv p.1 k).map (·.2)
/-- a key of one kind: 0 an int or a text, 1 a tuple of these -/
def isKey : D → Bool
  | .int _ => true
  | .str _ => true
  | _ => false
def isKeys : D → Bool
  | .tuple ds => ds.all isKey
  | _ => false
/-- a key as the dict has it: kt are tuples -/
def keyN : D → D
  | .dict [(.none, .tuple ds)] => .tuple ds
  | d => d
def keyOk (kvs : List (D × D)) (k : D) : Bool := (isKey k && kvs.all fun p => isKey p.1) || (isKeys k && kvs.all fun p => isKeys p.1)
def inB (d : D) : D → Option Bool
  | .list ds => if okD d && okD (.list ds) then some (ds.any fun y => PyData.eqv y d) else none
  | .tuple ds => if okD d && okD (.tuple ds) then some (ds.any fun y => PyData.eqv y d) else none
  | .str z => match d with
    | .str c => some (!(Builtin.Str.occurrences z c 0 z.length 1).isEmpty)
    | _ => none
  | .dict kvs => if keyOk kvs (keyN d) then some (dgetD kvs (keyN d)).isSome else none
  | _ => none
def notB (g : D → D → Option Bool) (d e : D) : Option Bool := (g d e).map (!·)
def bD (g : D → D → Option Bool) (d e : D) : Option D := (g d e).map .bool
def isNoneB (d e : D) : Option Bool := match e with
  | .none => some (!nonN d)
  | _ => none
def isBoolB (d e : D) : Option Bool := match d, e with
  | .bool a, .bool b => some (decide (a = b))
  | _, _ => none
def isB (d e : D) : Option Bool := match e with
  | .none => some (!nonN d)
  | .bool b => match d with
    | .bool a => some (decide (a = b))
    | _ => none
  | _ => none
def addD : D → D → Option D
  | .int i, .int j => some (.int (i + j))
  | .str x, .str y => if x.length + y.length ≤ sizeLine then some (.str (x ++ y)) else none
  | .tuple xs, .tuple ys => if xs.length + ys.length ≤ sizeLine then some (.tuple (xs ++ ys)) else none
  | _, _ => none
def catD : D → D → Option D
  | .list xs, .list ys => if xs.length + ys.length ≤ sizeLine then some (.list (xs ++ ys)) else none
  | _, _ => none
def subD : D → D → Option D
  | .int i, .int j => some (.int (i - j))
  | _, _ => none
def mulD : D → D → Option D
  | .int i, .int j => if (-(2 ^ 64) < i ∧ i < 2 ^ 64) ∨ (-(2 ^ 64) < j ∧ j < 2 ^ 64) then some (.int (i * j)) else none
  | _, _ => none
def modD : D → D → Option D
  | .int i, .int j => if 0 < j then some (.int (i % j)) else none
  | _, _ => none
def fdivD : D → D → Option D
  | .int i, .int j => if 0 < j ∧ j < 1073741824 then some (.int (i / j)) else none
  | _, _ => none
def powD : D → D → Option D
  | .int i, .int j => if 0 ≤ j ∧ j ≤ 1000000 ∧ i.natAbs < 2 ^ 64 then some (.int (i ^ j.toNat)) else none
  | _, _ => none
def negD : D → Option D
  | .int i => some (.int (-i))
  | _ => none
def notD : D → Option D
  | .bool b => some (.bool (!b))
  | _ => none
def asB : D → Option Bool
  | .bool b => some b
  | _ => none
def ixD : D → D → Option D
  | .dict [(.none, .tuple xs)], .int i => atI xs i
  | .list xs, .int i => atI xs i
  | .tuple xs, .int i => atI xs i
  | .str z, .int i => (atI z.cps.toList i).map fun c => .str ⟨#[c]⟩
  | _, _ => none
def ixdD : D → D → Option D
  | .dict kvs, k => if keyOk kvs (keyN k) then dgetD kvs (keyN k) else none
  | _, _ => none
def cutD (xs : List D) (lo hi : Option Int) : List D := (xs.drop (HT.sIx xs.length 0 lo)).take (HT.sIx xs.length xs.length hi - HT.sIx xs.length 0 lo)

/-! ### they are right -/
section
variable {X : Cx} {K : PySem.W.Frag}
theorem okD_plain {d : D} (h : okD d = true) : d.plain = true := (Bool.and_eq_true_iff.mp h).1
theorem okD_depth {d : D} (h : okD d = true) : d.depth ≤ 60 := of_decide_eq_true (Bool.and_eq_true_iff.mp h).2
theorem nonN_ne {d : D} (h : nonN d = true) : d ≠ .none := by
  rintro rfl
  cases h
theorem Tp.readsP {X : Cx} {pins : List (Addr × Obj)} {σ : L2.St} {H : Hp} {s : Shared} (I : L2.Inv X pins σ H s) {v : V} {d : D} (h : Tp X.K H H v d) (hp : d.plain = true) : ∀ u, RelV v u → ∃ as, Reads s.heap u d as := (h.deep (Evl.Ex.refl H) hp).reads I (cln_plain _ hp)
def rB (K : PySem.W.Frag) (g : D → D → Option Bool) : R2 := fun x y H Q => ∃ d e b, Tp K H H x d ∧ Tp K H H y e ∧ g d e = some b ∧ Q (.bl b) H
theorem ok_rB {g : D → D → Option Bool} : Op2 K (rB K g) (bD g) .dat := fun Hd H x y d e z Q eh tx ty hk q => by
  unfold bD at hk
  cases hg : g d e with
  | none => rw [hg] at hk; cases hk
  | some b =>
    rw [hg] at hk
    cases hk
    exact ⟨d, e, b, tx.mono eh (Evl.Ex.refl H), ty.mono eh (Evl.Ex.refl H), hg, q _ Hd H (Gr.refl eh) (.bl b)⟩
theorem op_eqB (hu : X.A.units + 64 < cLine) : OpR X (compareOp .Eq) (rB X.K eqB) := by
  intro pins s σ H x y v u Q I rx ry ⟨d, e, b, hd, he, hg, q⟩
  unfold eqB at hg
  split at hg
  · rename_i hc
    cases hg
    have h1 := (Bool.and_eq_true_iff.mp hc).1
    obtain ⟨as, r1⟩ := hd.readsP I (okD_plain h1) v rx
    obtain ⟨bs, r2⟩ := he.readsP I (okD_plain (Bool.and_eq_true_iff.mp hc).2) u ry
    have := okD_depth h1
    exact PySem.SeqAt.eq_plain r1 r2 (okD_plain h1) (okD_plain (Bool.and_eq_true_iff.mp hc).2) (by omega) ⟨.bl _, H, I, rfl, q⟩
  · cases hg
theorem op_neB (hu : X.A.units + 64 < cLine) : OpR X (compareOp .NotEq) (rB X.K neB) := by
  intro pins s σ H x y v u Q I rx ry ⟨d, e, b, hd, he, hg, q⟩
  unfold neB at hg
  split at hg
  · rename_i hc
    cases hg
    have h1 := (Bool.and_eq_true_iff.mp hc).1
    obtain ⟨as, r1⟩ := hd.readsP I (okD_plain h1) v rx
    obtain ⟨bs, r2⟩ := he.readsP I (okD_plain (Bool.and_eq_true_iff.mp hc).2) u ry
    have := okD_depth h1
    exact PySem.SeqAt.ne_plain r1 r2 (okD_plain h1) (okD_plain (Bool.and_eq_true_iff.mp hc).2) (by omega) ⟨.bl _, H, I, rfl, q⟩
  · cases hg
theorem lt_conds {d e : D} (h : (alike d e && nonN d && okD d && okD e) = true) : alike d e = true ∧ d ≠ .none ∧ d.depth ≤ 60 ∧ d.plain = true ∧ e.plain = true := by
  have h1 := Bool.and_eq_true_iff.mp h
  have h2 := Bool.and_eq_true_iff.mp h1.1
  have h3 := Bool.and_eq_true_iff.mp h2.1
  exact ⟨h3.1, nonN_ne h3.2, okD_depth h2.2, okD_plain h2.2, okD_plain h1.2⟩
theorem op_ltB (hu : X.A.units + 64 < cLine) : OpR X (compareOp .Lt) (rB X.K ltB) := by
  intro pins s σ H x y v u Q I rx ry ⟨d, e, b, hd, he, hg, q⟩
  unfold ltB at hg
  split at hg
  · rename_i hc
    cases hg
    obtain ⟨h1, h2, h3, h4, h5⟩ := lt_conds hc
    obtain ⟨as, r1⟩ := hd.readsP I h4 v rx
    obtain ⟨bs, r2⟩ := he.readsP I h5 u ry
    exact lt_data r1 r2 h1 h2 (by omega) ⟨.bl _, H, I, rfl, q⟩
  · cases hg
theorem op_gtB (hu : X.A.units + 64 < cLine) : OpR X (compareOp .Gt) (rB X.K gtB) := by
  intro pins s σ H x y v u Q I rx ry ⟨d, e, b, hd, he, hg, q⟩
  unfold gtB at hg
  split at hg
  · rename_i hc
    cases hg
    obtain ⟨h1, h2, h3, h4, h5⟩ := lt_conds hc
    obtain ⟨as, r1⟩ := hd.readsP I h4 v rx
    obtain ⟨bs, r2⟩ := he.readsP I h5 u ry
    exact gt_data r1 r2 h1 h2 (by omega) ⟨.bl _, H, I, rfl, q⟩
  · cases hg
theorem op_leB (hu : X.A.units + 64 < cLine) : OpR X (compareOp .LtE) (rB X.K leB) := by
  intro pins s σ H x y v u Q I rx ry ⟨d, e, b, hd, he, hg, q⟩
  unfold leB at hg
  split at hg
  · rename_i hc
    cases hg
    obtain ⟨h1, h2, h3, h4, h5⟩ := lt_conds hc
    obtain ⟨as, r1⟩ := hd.readsP I h4 v rx
    obtain ⟨bs, r2⟩ := he.readsP I h5 u ry
    exact le_data r1 r2 h1 h2 (by omega) ⟨.bl _, H, I, rfl, q⟩
  · cases hg
theorem op_geB (hu : X.A.units + 64 < cLine) : OpR X (compareOp .GtE) (rB X.K geB) := by
  intro pins s σ H x y v u Q I rx ry ⟨d, e, b, hd, he, hg, q⟩
  unfold geB at hg
  split at hg
  · rename_i hc
    cases hg
    obtain ⟨h1, h2, h3, h4, h5⟩ := lt_conds hc
    obtain ⟨as, r1⟩ := hd.readsP I h4 v rx
    obtain ⟨bs, r2⟩ := he.readsP I h5 u ry
    exact ge_data r1 r2 h1 h2 (by omega) ⟨.bl _, H, I, rfl, q⟩
  · cases hg
theorem op_isB : OpR X (compareOp .Is) (rB X.K isB) := by
  intro pins s σ H x y v u Q I rx ry ⟨d, e, b, hd, he, hg, q⟩
  cases he with
  | non =>
    have e1 : b = decide (x = .non) := by
      have hg' : some (!nonN d) = some b := hg
      rw [← Option.some.inj hg']
      cases hd <;> rfl
    exact op_isN pins s σ H x .non v u Q I rx ry ⟨rfl, e1 ▸ q⟩
  | bl k =>
    cases hd with
    | bl j =>
      have hg' : some (decide (j = k)) = some b := hg
      cases hg'
      exact op_is_bl pins s σ H _ _ v u Q I rx ry ⟨j, k, rfl, rfl, q⟩
    | _ => cases hg
  | _ => cases hg
theorem op_isnotB : OpR X (compareOp .IsNot) (rB X.K (notB isB)) := by
  intro pins s σ H x y v u Q I rx ry ⟨d, e, b, hd, he, hg, q⟩
  cases he with
  | non =>
    have e1 : b = !decide (x = .non) := by
      have hg' : some (!!nonN d) = some b := hg
      rw [← Option.some.inj hg']
      cases hd <;> rfl
    exact op_notN pins s σ H x .non v u Q I rx ry ⟨rfl, e1 ▸ q⟩
  | bl k =>
    cases hd with
    | bl j =>
      have hg' : some (!decide (j = k)) = some b := hg
      cases hg'
      exact op_isnot_bl pins s σ H _ _ v u Q I rx ry ⟨j, k, rfl, rfl, q⟩
    | _ => cases hg
  | _ => cases hg

/-! arithmetic -/
def rAdd2 (K : PySem.W.Frag) : R2 := fun x y H Q => (∃ i j, x = .int i ∧ y = .int j ∧ Q (.int (i + j)) H) ∨ (∃ i j, x = .str i ∧ y = .str j ∧ i.length + j.length ≤ sizeLine ∧ Q (.str (i ++ j)) H) ∨ rCatF K x y H Q
theorem op_add2 : OpR X (binaryOp .Add) (rAdd2 X.K) := OpR.or op_add (OpR.or op_add_str op_catF)
theorem str_len_append (a b : Str) : (a ++ b).length = a.length + b.length := by
  show (a.cps ++ b.cps).size = a.cps.size + b.cps.size
  exact Array.size_append
theorem ok_add : Op2 K (rAdd2 K) addD .dat := fun Hd H x y d e z Q eh tx ty hk q => by
  cases tx with
  | int i =>
    cases ty with
    | int j => cases hk; exact .inl ⟨i, j, rfl, rfl, q _ Hd H (Gr.refl eh) (.int _)⟩
    | _ => cases hk
  | str a _ =>
    cases ty with
    | str b _ =>
      have hk' : (if a.length + b.length ≤ sizeLine then some (PyData.str (a ++ b)) else none) = some z := hk
      split at hk'
      · cases hk'; exact .inr (.inl ⟨a, b, rfl, rfl, by assumption, q _ Hd H (Gr.refl eh) (.str _ (by rw [str_len_append]; assumption))⟩)
      · cases hk'
    | _ => cases hk
  | @tup a xs ds h1 h2 hz1 =>
    cases ty with
    | @tup b ys es k1 k2 hz2 =>
      have hk' : (if ds.length + es.length ≤ sizeLine then some (PyData.tuple (ds ++ es)) else none) = some z := hk
      split at hk'
      · cases hk'
        have l1 := h2.length
        have l2 := k2.length
        refine .inr (.inr ⟨a, b, xs, ys, rfl, rfl, (tu_mono eh h1).sq, (tu_mono eh k1).sq, by omega, fun e => ?_, fun n e => ?_, fun n m p o hp ho => ?_⟩)
        · subst e
          cases h2
          exact q _ Hd H (Gr.refl eh) (.tup k1 k2 hz2)
        · subst e
          cases k2
          rw [List.append_nil] at *
          exact q _ Hd H (Gr.refl eh) (.tup h1 h2 hz1)
        · refine q _ _ _ (Gr.dat eh hp) (.tup (TU.new ho) ?_ (by rw [List.length_append]; omega))
          exact (h2.append k2).mono (ex_upd (Evl.fresh_back eh hp))
      · cases hk'
    | _ => cases hk
  | _ => cases hk
theorem ok_I0 {g : Int → Int → Int} {k : D → D → Option D} (h : ∀ d e z, k d e = some z → ∃ i j, d = .int i ∧ e = .int j ∧ z = .int (g i j)) : Op2 K (rI0 fun i j => .int (g i j)) k .dat := fun Hd H x y d e z Q eh tx ty hk q => by
  obtain ⟨i, j, rfl, rfl, rfl⟩ := h _ _ _ hk
  cases tx
  cases ty
  exact ⟨i, j, rfl, rfl, q _ Hd H (Gr.refl eh) (.int _)⟩
theorem ok_I {C : Int → Int → Prop} {g : Int → Int → Int} {k : D → D → Option D} (h : ∀ d e z, k d e = some z → ∃ i j, d = .int i ∧ e = .int j ∧ C i j ∧ z = .int (g i j)) : Op2 K (rI C fun i j => .int (g i j)) k .dat := fun Hd H x y d e z Q eh tx ty hk q => by
  obtain ⟨i, j, rfl, rfl, hc, rfl⟩ := h _ _ _ hk
  cases tx
  cases ty
  exact ⟨i, j, rfl, rfl, hc, q _ Hd H (Gr.refl eh) (.int _)⟩
theorem ok_sub : Op2 K (rI0 fun i j => .int (i - j)) subD .dat := ok_I0 fun d e z h => by
  unfold subD at h
  split at h
  · cases h; exact ⟨_, _, rfl, rfl, rfl⟩
  · cases h
theorem ok_mul : Op2 K (rI CMul fun i j => .int (i * j)) mulD .dat := ok_I fun d e z h => by
  unfold mulD at h
  split at h
  · split at h
    · cases h; exact ⟨_, _, rfl, rfl, by assumption, rfl⟩
    · cases h
  · cases h
theorem ok_mod : Op2 K (rI (fun _ j => 0 < j) fun i j => .int (i % j)) modD .dat := ok_I fun d e z h => by
  unfold modD at h
  split at h
  · split at h
    · cases h; exact ⟨_, _, rfl, rfl, by assumption, rfl⟩
    · cases h
  · cases h
theorem ok_fdiv : Op2 K (rI CDiv fun i j => .int (i / j)) fdivD .dat := ok_I fun d e z h => by
  unfold fdivD at h
  split at h
  · split at h
    · cases h; exact ⟨_, _, rfl, rfl, by assumption, rfl⟩
    · cases h
  · cases h
theorem ok_pow : Op2 K (rI CPow fun i j => .int (i ^ j.toNat)) powD .dat := ok_I fun d e z h => by
  unfold powD at h
  split at h
  · split at h
    · cases h; exact ⟨_, _, rfl, rfl, by assumption, rfl⟩
    · cases h
  · cases h
theorem ok_neg : Op1 K (rU fun i => .int (-i)) negD .dat := fun Hd H x d z Q eh tx hk q => by
  unfold negD at hk
  split at hk
  · cases hk
    cases tx
    exact ⟨_, rfl, q _ Hd H (Gr.refl eh) (.int _)⟩
  · cases hk

/-! lists put together -/
def rCatS : R2 := fun x y H Q => ∃ l b xs zs, x = .ref l ∧ y = .ref b ∧ Rd H l (.lst xs) ∧ Rd H b (.lst zs) ∧ xs.length + zs.length ≤ sizeLine ∧ ∀ p, H p = none → Q (.ref p) (upd H p (.lst (xs ++ zs)))
theorem op_catS : OpR X (binaryOp .Add) rCatS := by
  intro pins s σ H x y v u Q I rx ry h
  obtain ⟨l, b, xs, zs, rfl, rfl, hH, hB, hz, q⟩ := h
  cases rx
  cases ry
  obtain ⟨_, its, n, r, e⟩ := hH.ok I.hok
  obtain ⟨_, its2, n2, r2, e2⟩ := hB.ok I.hok
  have hl := r.length
  have hl2 := r2.length
  refine PySem.P.add_list e e2 ?_ (by rw [List.size_toArray, List.size_toArray]; omega)
  have ea : its.toArray ++ its2.toArray = (its ++ its2).toArray := by simp
  rw [ea]
  exact ⟨.ref _, _, I.lnew (t' := s.toks) (r.append r2) (by rw [List.length_append]; omega), rfl, q _ I.fresh⟩
theorem ok_cat : Op2 K rCatS catD .fre := fun Hd H x y d e z Q eh tx ty hk q => by
  cases tx with
  | @lst a xs ds h1 h2 _ =>
    cases ty with
    | @lst b ys es k1 k2 _ =>
      have hk' : (if ds.length + es.length ≤ sizeLine then some (PyData.list (ds ++ es)) else none) = some z := hk
      split at hk'
      · cases hk'
        have l1 := h2.length
        have l2 := k2.length
        exact ⟨a, b, xs, ys, rfl, rfl, h1, k1, by omega, fun p hp => q _ Hd _ (Gr.own eh hp) ⟨p, rfl, hp, Evl.fresh_back eh hp, .lst upd_same (h2.append k2) (by rw [List.length_append]; omega)⟩⟩
      · cases hk'
    | _ => cases hk
  | _ => cases hk
end
end PL

set_option Elab.async false
set_option linter.all false
set_option maxRecDepth 100000
namespace PL
open PySem PySem.Spec PyProof.Rows L2 PySem.W

/-! ### dicts -/
section
variable {X : Cx} {K : PySem.W.Frag} {pins : List (Addr × Obj)} {σ : L2.St} {H Hd : Hp} {s : Shared}
theorem eqv_key (a b : Key) : PyData.eqv (keyD a) (keyD b) = decide (a = b) := by
  cases a <;> cases b <;> simp only [keyD, PyData.eqv] <;> simp [Bool.beq_eq_decide_eq]
theorem eqv_keysAll : ∀ a b : List Key, PyData.eqvAll (a.map keyD) (b.map keyD) = decide (a = b)
  | [], [] => by simp [PyData.eqvAll]
  | [], _ :: _ => by simp [PyData.eqvAll]
  | _ :: _, [] => by simp [PyData.eqvAll]
  | a :: as, b :: bs => by
    rw [List.map_cons, List.map_cons, PyData.eqvAll, eqv_key, eqv_keysAll as bs, ← Bool.decide_and]
    exact decide_eq_decide.mpr (by rw [List.cons.injEq])
theorem eqv_keys (a b : List Key) : PyData.eqv (keysD a) (keysD b) = decide (a = b) := by
  unfold keysD
  simp only [PyData.eqv]
  exact eqv_keysAll a b
theorem dget_gen {κ : Type} [DecidableEq κ] {enc : κ → D} (he : ∀ a b, PyData.eqv (enc a) (enc b) = decide (a = b)) : ∀ {kvs : List (κ × V)} {ds : List D} (k : κ), Rps K Hd (kvs.map (·.2)) ds →
    (valV kvs k = none ∧ dgetD ((kvs.map fun p => enc p.1).zip ds) (enc k) = none) ∨ ∃ v d, valV kvs k = some v ∧ dgetD ((kvs.map fun p => enc p.1).zip ds) (enc k) = some d ∧ Rp K Hd v d
  | [], [], k, _ => .inl ⟨rfl, rfl⟩
  | p :: kvs, d :: ds, k, .cons r t => by
    by_cases h : p.1 = k
    · refine .inr ⟨p.2, d, valV_pos h, ?_, r⟩
      show (List.find? (fun q => PyData.eqv q.1 (enc k)) ((enc p.1, d) :: ((kvs.map fun p => enc p.1).zip ds))).map (·.2) = some d
      rw [List.find?_cons_of_pos (by rw [he]; exact decide_eq_true h)]
      rfl
    · have e1 : valV (p :: kvs) k = valV kvs k := valV_neg h
      have e2 : dgetD (((p :: kvs).map fun p => enc p.1).zip (d :: ds)) (enc k) = dgetD ((kvs.map fun p => enc p.1).zip ds) (enc k) := by
        show (List.find? (fun q => PyData.eqv q.1 (enc k)) ((enc p.1, d) :: ((kvs.map fun p => enc p.1).zip ds))).map (·.2) = _
        rw [List.find?_cons_of_neg (by rw [he]; simpa using h)]
        rfl
      rw [e1, e2]
      exact dget_gen he k t
/-- what a look into a dict gives, an empty one being of both kinds -/
def KA (H : Hp) (b : Addr) (k : List Key) : Prop := H b = some (.tup (k.map kV)) ∨ TU H b (k.map kV)
theorem ka_of {P : Program} {w : World} {h : Heap} {b : Addr} {k : List Key} (ok : HOk P w H h) (e : KA H b k) : (tupleKind (mixKind P w)).is h k b := by
  rcases e with e | ⟨o, e, _⟩
  · exact key_of ok e
  · obtain ⟨_, _, its, r, ob, h1, h2, n, h3⟩ := (show ObjOk P w H h b (.frz o (.tup (k.map kV))) from ok b _ e)
    exact ⟨ob, its.toArray, n, h1, h2, h3, by simpa using items_are r⟩
theorem ka_mono {b : Addr} {k : List Key} {H' : Hp} (e : Ex H H') (h : KA H b k) : KA H' b k := h.elim (fun q => .inl (e _ _ q)) fun q => .inr (tu_mono e q)
def DG (H : Hp) (a : Addr) (y : V) (r : Option V) : Prop := DGet H a y r ∨ (Rd H a (.dK []) ∧ (∃ (b : Addr) (k : List Key), y = .ref b ∧ KA H b k) ∧ r = none) ∨ (Rd H a (.dT []) ∧ (∃ k : Key, y = kV k) ∧ r = none) ∨
  ∃ (kvs : List (List Key × V)) (b : Addr) (k : List Key), Rd H a (.dT kvs) ∧ y = .ref b ∧ KA H b k ∧ r = valV kvs k
theorem of_isKey {v : V} {d : D} (t : Tp K Hd H v d) (h : isKey d = true) : ∃ k, v = kV k ∧ d = keyD k := by
  cases t with
  | int i => exact ⟨.inl i, rfl, rfl⟩
  | str x _ => exact ⟨.inr x, rfl, rfl⟩
  | _ => cases h
theorem keyN_key {d : D} (h : isKey (keyN d) = true) : keyN d = d := by
  unfold keyN at h ⊢
  split at h
  · cases h
  · rfl
theorem all_keys : ∀ {vs : List V} {ds : List D}, Rps K Hd vs ds → ds.all isKey = true → ∃ ks : List Key, vs = ks.map kV ∧ ds = ks.map keyD
  | [], [], _, _ => ⟨[], rfl, rfl⟩
  | v :: vs, d :: ds, .cons r t, h => by
    rw [List.all_cons, Bool.and_eq_true] at h
    obtain ⟨ks, rfl, rfl⟩ := all_keys t h.2
    cases r with
    | int i => exact ⟨.inl i :: ks, rfl, rfl⟩
    | str x _ => exact ⟨.inr x :: ks, rfl, rfl⟩
    | _ => exact absurd h.1 (by simp [isKey])
theorem keyN_K {ws : List (Key × V)} {ds : List D} : keyN (.dict ((ws.map fun p => keyD p.1).zip ds)) = .dict ((ws.map fun p => keyD p.1).zip ds) := by
  cases ws with
  | nil => rfl
  | cons p r =>
    cases ds with
    | nil => rfl
    | cons d ds =>
      rw [List.map_cons, List.zip_cons_cons]
      cases p with
      | mk k v => cases k <;> rfl
theorem keyN_T {ws : List (List Key × V)} {ds : List D} : keyN (.dict ((ws.map fun p => keysD p.1).zip ds)) = .dict ((ws.map fun p => keysD p.1).zip ds) := by
  cases ws with
  | nil => rfl
  | cons p r =>
    cases ds with
    | nil => rfl
    | cons d ds => rfl
theorem of_isKeys {v : V} {d : D} (e : Ex Hd H) (t : Tp K Hd H v d) (h : isKeys (keyN d) = true) : ∃ b k, v = .ref b ∧ KA Hd b k ∧ keyN d = keysD k := by
  cases t with
  | @tup a xs ds h1 h2 _ =>
    obtain ⟨ks, rfl, rfl⟩ := all_keys h2 h
    exact ⟨a, ks, rfl, .inr h1, rfl⟩
  | @kt a xs ds h1 h2 _ =>
    obtain ⟨ks, rfl, rfl⟩ := all_keys h2 h
    exact ⟨a, ks, rfl, .inl h1, rfl⟩
  | @dK a ws ds h1 h2 => exact absurd h (by rw [keyN_K]; simp [isKeys])
  | @dT a ws ds h1 h2 => exact absurd h (by rw [keyN_T]; simp [isKeys])
  | _ => cases h
theorem notKey_keys (k : List Key) : isKey (keysD k) = false := rfl
theorem notKeys_key (k : Key) : isKeys (keyD k) = false := by cases k <;> rfl
theorem look_rel {v y : V} {kvs : List (D × D)} {k : D} (e : Ex Hd H) (t : Tp K Hd H v (.dict kvs)) (ty : Tp K Hd H y k) (ok : keyOk kvs (keyN k) = true) :
    ∃ a r, v = .ref a ∧ DG H a y r ∧ ((r = none ∧ dgetD kvs (keyN k) = none) ∨ ∃ w d, r = some w ∧ dgetD kvs (keyN k) = some d ∧ Rp K Hd w d) := by
  cases t with
  | @kt a xs ds h1 h2 hz =>
    exfalso
    unfold keyOk at ok
    simp [isKey, isKeys] at ok
  | @scr a ns h1 =>
    exfalso
    unfold keyOk at ok
    simp [isKey, isKeys] at ok
  | @dK a ws ds h1 h2 =>
    have hl := h2.length
    rw [List.length_map] at hl
    rcases Bool.or_eq_true_iff.mp ok with o | o
    · have ek := keyN_key (Bool.and_eq_true_iff.mp o).1
      rw [ek] at o ⊢
      obtain ⟨k1, rfl, rfl⟩ := of_isKey ty (Bool.and_eq_true_iff.mp o).1
      refine ⟨a, valV ws k1, rfl, .inl (.inl ⟨ws, k1, h1, rfl, rfl⟩), ?_⟩
      rcases dget_gen eqv_key k1 h2 with ⟨e1, e2⟩ | ⟨w, d, e1, e2, e3⟩
      · exact .inl ⟨e1, e2⟩
      · exact .inr ⟨w, d, e1, e2, e3⟩
    · obtain ⟨b, ks, rfl, hb, ek⟩ := of_isKeys e ty (Bool.and_eq_true_iff.mp o).1
      rw [ek] at o ⊢
      cases ws with
      | nil => exact ⟨a, none, rfl, .inr (.inl ⟨h1, ⟨b, ks, rfl, ka_mono e hb⟩, rfl⟩), .inl ⟨rfl, rfl⟩⟩
      | cons p ws =>
        exfalso
        cases ds with
        | nil => simp at hl
        | cons d ds =>
          have o2 := (Bool.and_eq_true_iff.mp o).2
          rw [List.map_cons, List.zip_cons_cons, List.all_cons, Bool.and_eq_true] at o2
          rw [notKeys_key] at o2
          exact absurd o2.1 (by simp)
  | @dT a ws ds h1 h2 =>
    have hl := h2.length
    rw [List.length_map] at hl
    rcases Bool.or_eq_true_iff.mp ok with o | o
    · have ek := keyN_key (Bool.and_eq_true_iff.mp o).1
      rw [ek] at o ⊢
      obtain ⟨k1, rfl, rfl⟩ := of_isKey ty (Bool.and_eq_true_iff.mp o).1
      cases ws with
      | nil => exact ⟨a, none, rfl, .inr (.inr (.inl ⟨h1, ⟨k1, rfl⟩, rfl⟩)), .inl ⟨rfl, rfl⟩⟩
      | cons p ws =>
        exfalso
        cases ds with
        | nil => simp at hl
        | cons d ds =>
          have o2 := (Bool.and_eq_true_iff.mp o).2
          rw [List.map_cons, List.zip_cons_cons, List.all_cons, Bool.and_eq_true] at o2
          rw [notKey_keys] at o2
          exact absurd o2.1 (by simp)
    · obtain ⟨b, ks, rfl, hb, ek⟩ := of_isKeys e ty (Bool.and_eq_true_iff.mp o).1
      rw [ek]
      refine ⟨a, valV ws ks, rfl, .inr (.inr (.inr ⟨ws, b, ks, h1, rfl, ka_mono e hb, rfl⟩)), ?_⟩
      rcases dget_gen eqv_keys ks h2 with ⟨e1, e2⟩ | ⟨w, d, e1, e2, e3⟩
      · exact .inl ⟨e1, e2⟩
      · exact .inr ⟨w, d, e1, e2, e3⟩

/-! an empty dict is of both kinds -/
theorem emptyT {h : Heap} {a : Addr} {P : Program} {w : World} {vs : List (Key × Value)} (rel : KV ([] : List (Key × V)) vs) (dd : h.DictOf (mixKind P w) a vs) : h.DictOfH (tupleKind (mixKind P w)) a [] := by
  cases rel
  obtain ⟨o, es, ep, ho, hx, hd, _, hp, _⟩ := dd
  refine ⟨o, es, ep, ho, hx, hd, ?_, fun x hx => (nomatch hx), List.nodup_nil⟩
  revert hp
  generalize es.toList = l
  intro hp
  cases hp
  rfl
theorem emptyK {h : Heap} {a : Addr} {P : Program} {w : World} {xs : List (List Key × Addr × Value)} (rel : KT H ([] : List (List Key × V)) xs) (dd : h.DictOfH (tupleKind (mixKind P w)) a xs) : h.DictOf (mixKind P w) a [] := by
  cases rel
  obtain ⟨o, es, ep, ho, hx, hd, he, _, _⟩ := dd
  have e0 : es = #[] := by
    apply Array.toList_inj.mp
    rw [he]
    rfl
  subst e0
  exact ⟨o, #[], ep, ho, hx, hd, fun e h => (by simp at h), .nil, List.nodup_nil⟩
variable {A : Around} {E : Value → Shared → Prop} {a : Addr} {y v : V} {u r : Value} {o : Option V}
theorem g_in {Q : Value → Shared → Prop} (hu : A.units + 1 < cLine) (I : Inv X pins σ H s) (g : DG H a y o) (ry : RelV y u) (h : ∀ s', Inv X pins σ H s' → Q (.bool o.isSome) s') : wpAny (model X.prog X.w) A (compareOp .In u (.ref a)) Q E s := by
  rcases g with g | ⟨e, ⟨b, k, rfl, eb⟩, rfl⟩ | ⟨e, ⟨k, rfl⟩, rfl⟩ | ⟨kvs, b, k, e, rfl, eb, rfl⟩
  · exact d_in hu I g ry h
  · cases (show u = Value.ref b from ry)
    obtain ⟨_, hd, vs, rel, dd⟩ := dk_rd I.hok e
    exact wpAny_in_heap (tupleKind_room_in1 hu) (ka_of I.hok eb) hd (emptyT rel dd) (h _ (I.tok _))
  · obtain ⟨_, hd, xs, rel, dd⟩ := dt_rd I.hok e
    exact wpAny_in_of (kV_is ry) hd (emptyK rel dd).mapOf (h _ (I.tok _))
  · cases (show u = Value.ref b from ry)
    obtain ⟨z, hd, xs, rel, dd⟩ := dt_rd I.hok e
    refine wpAny_in_heap (tupleKind_room_in1 hu) (ka_of I.hok eb) hd dd ?_
    have q := (rel.val k).isSome_eq
    rw [Option.isSome_map] at q
    exact q ▸ h _ (I.tok _)
theorem g_notIn {Q : Value → Shared → Prop} (hu : A.units + 1 < cLine) (I : Inv X pins σ H s) (g : DG H a y o) (ry : RelV y u) (h : ∀ s', Inv X pins σ H s' → Q (.bool (!o.isSome)) s') : wpAny (model X.prog X.w) A (compareOp .NotIn u (.ref a)) Q E s := by
  rcases g with g | ⟨e, ⟨b, k, rfl, eb⟩, rfl⟩ | ⟨e, ⟨k, rfl⟩, rfl⟩ | ⟨kvs, b, k, e, rfl, eb, rfl⟩
  · exact d_notIn hu I g ry h
  · cases (show u = Value.ref b from ry)
    obtain ⟨_, hd, vs, rel, dd⟩ := dk_rd I.hok e
    exact wpAny_notIn_heap (tupleKind_room_in1 hu) (ka_of I.hok eb) hd (emptyT rel dd) (h _ (I.tok _))
  · obtain ⟨_, hd, xs, rel, dd⟩ := dt_rd I.hok e
    exact wpAny_notIn_of (kV_is ry) hd (emptyK rel dd).mapOf (h _ (I.tok _))
  · cases (show u = Value.ref b from ry)
    obtain ⟨z, hd, xs, rel, dd⟩ := dt_rd I.hok e
    refine wpAny_notIn_heap (tupleKind_room_in1 hu) (ka_of I.hok eb) hd dd ?_
    have q := (rel.val k).isSome_eq
    rw [Option.isSome_map] at q
    exact q ▸ h _ (I.tok _)
theorem g_get1 {Q : Value → Shared → Prop} (hu : A.units + 1 < cLine) (I : Inv X pins σ H s) (g : DG H a y o) (ry : RelV y u) (h : ∀ w' s', Inv X pins σ H s' → RelV (o.getD .non) w' → Q w' s') :
    wpAny (model X.prog X.w) A (call (.builtin "dict.get") [.ref a, u]) Q E s := by
  rcases g with g | ⟨e, ⟨b, k, rfl, eb⟩, rfl⟩ | ⟨e, ⟨k, rfl⟩, rfl⟩ | ⟨kvs, b, k, e, rfl, eb, rfl⟩
  · exact d_get1 hu I g ry h
  · cases (show u = Value.ref b from ry)
    obtain ⟨_, hd, vs, rel, dd⟩ := dk_rd I.hok e
    exact call_meetsIn PySem.F.slot_dict_get dd.typeIs PySem.F.entry_dict_get (PySem.F.args_dict_get_2 _ _) (meetsH_dict_get (tupleKind (mixKind X.prog X.w)) a b hd) ⟨tupleKind_room_in1 hu, k, [], ka_of I.hok eb, emptyT rel dd, h _ _ (I.tok _) rfl⟩
  · obtain ⟨_, hd, xs, rel, dd⟩ := dt_rd I.hok e
    exact call_meetsIn PySem.F.slot_dict_get dd.typeIs PySem.F.entry_dict_get (PySem.F.args_dict_get_2 _ _) (meets_dict_get (mixKind X.prog X.w) a (kV_is ry) hd) ⟨_, (emptyK rel dd).mapOf, h _ _ (I.tok _) rfl⟩
  · cases (show u = Value.ref b from ry)
    obtain ⟨z, hd, xs, rel, dd⟩ := dt_rd I.hok e
    exact call_meetsIn PySem.F.slot_dict_get dd.typeIs PySem.F.entry_dict_get (PySem.F.args_dict_get_2 _ _) (meetsH_dict_get (tupleKind (mixKind X.prog X.w)) a b hd) ⟨tupleKind_room_in1 hu, k, xs, ka_of I.hok eb, dd, h _ _ (I.tok _) ((rel.val k).getD rfl)⟩
theorem g_get2 {Q : Value → Shared → Prop} {d : V} (hu : A.units + 1 < cLine) (I : Inv X pins σ H s) (g : DG H a y o) (ry : RelV y u) (rd : RelV d r) (h : ∀ w' s', Inv X pins σ H s' → RelV (o.getD d) w' → Q w' s') :
    wpAny (model X.prog X.w) A (call (.builtin "dict.get") [.ref a, u, r]) Q E s := by
  rcases g with g | ⟨e, ⟨b, k, rfl, eb⟩, rfl⟩ | ⟨e, ⟨k, rfl⟩, rfl⟩ | ⟨kvs, b, k, e, rfl, eb, rfl⟩
  · exact d_get2 hu I g ry rd h
  · cases (show u = Value.ref b from ry)
    obtain ⟨_, hd, vs, rel, dd⟩ := dk_rd I.hok e
    exact call_meetsIn PySem.F.slot_dict_get dd.typeIs PySem.F.entry_dict_get (PySem.F.args_dict_get_3 _ _ _) (meetsH_dict_get_default (tupleKind (mixKind X.prog X.w)) a b hd r) ⟨tupleKind_room_in1 hu, k, [], ka_of I.hok eb, emptyT rel dd, h _ _ (I.tok _) rd⟩
  · obtain ⟨_, hd, xs, rel, dd⟩ := dt_rd I.hok e
    exact call_meetsIn PySem.F.slot_dict_get dd.typeIs PySem.F.entry_dict_get (PySem.F.args_dict_get_3 _ _ _) (meets_dict_get_default (mixKind X.prog X.w) a (kV_is ry) hd r) ⟨_, (emptyK rel dd).mapOf, h _ _ (I.tok _) rd⟩
  · cases (show u = Value.ref b from ry)
    obtain ⟨z, hd, xs, rel, dd⟩ := dt_rd I.hok e
    exact call_meetsIn PySem.F.slot_dict_get dd.typeIs PySem.F.entry_dict_get (PySem.F.args_dict_get_3 _ _ _) (meetsH_dict_get_default (tupleKind (mixKind X.prog X.w)) a b hd r) ⟨tupleKind_room_in1 hu, k, xs, ka_of I.hok eb, dd, h _ _ (I.tok _) ((rel.val k).getD rd)⟩

/-! ### in -/
theorem room1 {d e : D} {u : Nat} (h : d.depth ≤ 60) (hu : u + 64 < cLine) : u + 1 + min e.depth d.depth < cLine := by
  have := Nat.min_le_right e.depth d.depth
  omega
theorem room1s {d : D} {n u : Nat} (h : d.depth ≤ 60) (hu : u + 64 < cLine) : u + 1 + min n d.depth < cLine := by
  have := Nat.min_le_right n d.depth
  omega
def rIn2 (K : PySem.W.Frag) (n : Bool) : R2 := fun x y H Q => ∃ d e b Hd, Ex Hd H ∧ Tp K Hd H x d ∧ Tp K Hd H y e ∧ inB d e = some b ∧ Q (.bl (if n then !b else b)) H
theorem op_in2 (hu : X.A.units + 64 < cLine) : OpR X (compareOp .In) (rIn2 X.K false) := by
  intro pins s σ H x y v u Q I rx ry ⟨d, e, b, Hd, eh, hd, he, hg, q⟩
  unfold inB at hg
  split at hg
  · split at hg
    · rename_i hc
      cases hg
      have h1 := Bool.and_eq_true_iff.mp hc
      obtain ⟨as, r1⟩ := (hd.deep eh (okD_plain h1.1)).reads I (cln_plain _ (okD_plain h1.1)) v rx
      obtain ⟨bs, r2⟩ := (he.deep eh (okD_plain h1.2)).reads I (cln_plain _ (okD_plain h1.2)) u ry
      have p2 := okD_plain h1.2
      exact PySem.SeqAt.in_list_data r2 r1 (by simpa [PyData.plain] using p2) (okD_plain h1.1) (room1s (okD_depth h1.1) hu) ⟨.bl _, H, I, rfl, q⟩
    · cases hg
  · split at hg
    · rename_i hc
      cases hg
      have h1 := Bool.and_eq_true_iff.mp hc
      obtain ⟨as, r1⟩ := (hd.deep eh (okD_plain h1.1)).reads I (cln_plain _ (okD_plain h1.1)) v rx
      obtain ⟨bs, r2⟩ := (he.deep eh (okD_plain h1.2)).reads I (cln_plain _ (okD_plain h1.2)) u ry
      have p2 := okD_plain h1.2
      exact PySem.SeqAt.in_tuple_data r2 r1 (by simpa [PyData.plain] using p2) (okD_plain h1.1) (room1s (okD_depth h1.1) hu) ⟨.bl _, H, I, rfl, q⟩
    · cases hg
  · split at hg
    · cases hg
      cases he
      cases hd
      exact op_in_str pins s σ H _ _ v u Q I rx ry ⟨_, _, rfl, rfl, q⟩
    · cases hg
  · split at hg
    · rename_i hc
      cases hg
      obtain ⟨a, r, rfl, g, hr⟩ := look_rel eh he hd hc
      cases ry
      rcases hr with ⟨e1, e2⟩ | ⟨w, dd, e1, e2, _⟩
      · rw [e2] at q
        subst e1
        exact g_in (by omega) I g rx fun s' I' => ⟨.bl _, H, I', rfl, q⟩
      · rw [e2] at q
        subst e1
        exact g_in (by omega) I g rx fun s' I' => ⟨.bl _, H, I', rfl, q⟩
    · cases hg
  · cases hg
theorem op_notIn2 (hu : X.A.units + 64 < cLine) : OpR X (compareOp .NotIn) (rIn2 X.K true) := by
  intro pins s σ H x y v u Q I rx ry ⟨d, e, b, Hd, eh, hd, he, hg, q⟩
  unfold inB at hg
  split at hg
  · split at hg
    · rename_i hc
      cases hg
      have h1 := Bool.and_eq_true_iff.mp hc
      obtain ⟨as, r1⟩ := (hd.deep eh (okD_plain h1.1)).reads I (cln_plain _ (okD_plain h1.1)) v rx
      obtain ⟨bs, r2⟩ := (he.deep eh (okD_plain h1.2)).reads I (cln_plain _ (okD_plain h1.2)) u ry
      have p2 := okD_plain h1.2
      exact PySem.SeqAt.notIn_list_data r2 r1 (by simpa [PyData.plain] using p2) (okD_plain h1.1) (room1s (okD_depth h1.1) hu) ⟨.bl _, H, I, rfl, q⟩
    · cases hg
  · split at hg
    · rename_i hc
      cases hg
      have h1 := Bool.and_eq_true_iff.mp hc
      obtain ⟨as, r1⟩ := (hd.deep eh (okD_plain h1.1)).reads I (cln_plain _ (okD_plain h1.1)) v rx
      obtain ⟨bs, r2⟩ := (he.deep eh (okD_plain h1.2)).reads I (cln_plain _ (okD_plain h1.2)) u ry
      have p2 := okD_plain h1.2
      exact PySem.SeqAt.notIn_tuple_data r2 r1 (by simpa [PyData.plain] using p2) (okD_plain h1.1) (room1s (okD_depth h1.1) hu) ⟨.bl _, H, I, rfl, q⟩
    · cases hg
  · split at hg
    · cases hg
      cases he
      cases hd
      exact op_notIn_str pins s σ H _ _ v u Q I rx ry ⟨_, _, rfl, rfl, q⟩
    · cases hg
  · split at hg
    · rename_i hc
      cases hg
      obtain ⟨a, r, rfl, g, hr⟩ := look_rel eh he hd hc
      cases ry
      rcases hr with ⟨e1, e2⟩ | ⟨w, dd, e1, e2, _⟩
      · rw [e2] at q
        subst e1
        exact g_notIn (by omega) I g rx fun s' I' => ⟨.bl _, H, I', rfl, q⟩
      · rw [e2] at q
        subst e1
        exact g_notIn (by omega) I g rx fun s' I' => ⟨.bl _, H, I', rfl, q⟩
    · cases hg
  · cases hg
theorem ok_in : Op2 K (rIn2 K false) (bD inB) .dat := fun Hd H x y d e z Q eh tx ty hk q => by
  unfold bD at hk
  cases hg : inB d e with
  | none => rw [hg] at hk; cases hk
  | some b =>
    rw [hg] at hk
    cases hk
    exact ⟨d, e, b, Hd, eh, tx, ty, hg, q _ Hd H (Gr.refl eh) (.bl b)⟩
theorem ok_notIn : Op2 K (rIn2 K true) (bD (notB inB)) .dat := fun Hd H x y d e z Q eh tx ty hk q => by
  unfold bD notB at hk
  cases hg : inB d e with
  | none => rw [hg] at hk; cases hk
  | some b =>
    rw [hg] at hk
    cases hk
    exact ⟨d, e, b, Hd, eh, tx, ty, hg, q _ Hd H (Gr.refl eh) (.bl (!b))⟩

/-! ### items -/
def rIx2 (K : PySem.W.Frag) : R2 := fun x y H Q => ∃ d e z Hd, Ex Hd H ∧ Tp K Hd H x d ∧ Tp K Hd H y e ∧ ixD d e = some z ∧ ∀ v, Rp K Hd v z → Q v H
theorem at_rps {vs : List V} {ds : List D} {i : Int} {z : D} (r : Rps K Hd vs ds) (h : atI ds i = some z) : ∃ v, atI vs i = some v ∧ Rp K Hd v z := by
  unfold atI at h ⊢
  rw [r.length]
  cases e : ixN ds.length i with
  | none => rw [e] at h; cases h
  | some j =>
    rw [e] at h
    exact r.get h
theorem kt_of {v : V} {l : List D} (t : Tp K Hd H v (kt l)) : ∃ (a : Addr) (xs : List V), v = .ref a ∧ Hd a = some (.tup xs) ∧ Rps K Hd xs l ∧ xs.length ≤ sizeLine := by
  generalize hd : kt l = dd at t
  cases t with
  | @kt a xs ds h1 h2 h3 =>
    cases hd
    exact ⟨a, xs, rfl, h1, h2, h3⟩
  | @dK a ws ds h1 h2 =>
    have := congrArg keyN hd
    rw [keyN_K] at this
    cases this
  | @dT a ws ds h1 h2 =>
    have := congrArg keyN hd
    rw [keyN_T] at this
    cases this
  | _ => cases hd
theorem ix_2 : IxR X (rIx2 X.K) := by
  intro value slice pins s σ H x y v u Q I rx ry ⟨d, e, z, Hd, eh, tx, ty, hk, q⟩ hs
  unfold ixD at hk
  split at hk
  · rename_i ds i
    cases ty
    obtain ⟨a, xs, rfl, h1, h2, _⟩ := kt_of tx
    obtain ⟨w, e1, e2⟩ := at_rps h2 hk
    exact ix_tup value slice pins s σ H _ _ v u Q I rx ry ⟨a, xs, i, w, rfl, rfl, .of (eh _ _ h1), e1, q w e2⟩ hs
  · rename_i ds i
    cases tx with
    | @lst a xs _ h1 h2 _ =>
      cases ty
      obtain ⟨w, e1, e2⟩ := at_rps h2 hk
      exact ix_list value slice pins s σ H _ _ v u Q I rx ry ⟨a, xs, i, w, rfl, rfl, .inl h1, e1, q w e2⟩ hs
  · rename_i ds i
    cases tx with
    | @tup a xs _ h1 h2 _ =>
      cases ty
      obtain ⟨w, e1, e2⟩ := at_rps h2 hk
      exact ix_tup value slice pins s σ H _ _ v u Q I rx ry ⟨a, xs, i, w, rfl, rfl, (tu_mono eh h1).sq, e1, q w e2⟩ hs
  · rename_i z0 i
    cases tx with
    | str _ hz =>
      cases ty
      cases e1 : atI z0.cps.toList i with
      | none => rw [e1] at hk; cases hk
      | some c =>
        rw [e1] at hk
        cases hk
        exact ix_str value slice pins s σ H _ _ v u Q I rx ry ⟨z0, i, c, rfl, rfl, hz, e1, q _ (.str _ (by show 1 ≤ sizeLine; decide))⟩ hs
  · cases hk
theorem ok_ix : Op2 K (rIx2 K) ixD .dat := fun Hd H x y d e z Q eh tx ty hk q => ⟨d, e, z, Hd, eh, tx, ty, hk, fun v r => q v Hd H (Gr.refl eh) r⟩
/-- of the script -/
def ixSD : D → D → Option D
  | .dict [(.none, .list ds)], .int i => atI ds i
  | _, _ => none
def rIxSc (K : PySem.W.Frag) : R2 := fun x y H Q => ∃ a ns i z, x = .ref a ∧ y = .int i ∧ SqL K H a (ns.map V.int) ∧ atI ns i = some z ∧ Q (.int z) H
theorem ix_sc : IxR X (rIxSc X.K) := by
  intro value slice pins s σ H x y v u Q I rx ry h hs
  obtain ⟨a, ns, i, z, rfl, rfl, h1, h2, q⟩ := h
  refine ix_list value slice pins s σ H (.ref a) (.int i) v u Q I rx ry ⟨a, _, i, .int z, rfl, rfl, h1, ?_, q⟩ hs
  unfold atI at h2 ⊢
  rw [List.length_map]
  cases e : ixN ns.length i with
  | none => rw [e] at h2; cases h2
  | some j =>
    rw [e] at h2
    show (ns.map V.int)[j]? = _
    rw [List.getElem?_map]
    rw [show ns[j]? = some z from h2]
    rfl
theorem scr_of {v : V} {l : List D} (t : Tp K Hd H v (.dict [(.none, .list l)])) : ∃ (a : Addr) (ns : List Int), v = .ref a ∧ SqL K H a (ns.map V.int) ∧ l = ns.map PyData.int := by
  generalize hd : (PyData.dict [(PyData.none, PyData.list l)]) = dd at t
  cases t with
  | @scr a ns h1 =>
    cases hd
    exact ⟨a, ns, rfl, h1, rfl⟩
  | @dK a ws ds h1 h2 =>
    exfalso
    cases ws with
    | nil => cases hd
    | cons p ws =>
      cases ds with
      | nil => cases hd
      | cons d ds =>
        rw [List.map_cons, List.zip_cons_cons] at hd
        injection hd with hd
        injection hd with hd _
        injection hd with hd _
        cases p with
        | mk k w => cases k <;> cases hd
  | @dT a ws ds h1 h2 =>
    exfalso
    cases ws with
    | nil => cases hd
    | cons p ws =>
      cases ds with
      | nil => cases hd
      | cons d ds =>
        rw [List.map_cons, List.zip_cons_cons] at hd
        injection hd with hd
        injection hd with hd _
        injection hd with hd _
        cases hd
  | _ => cases hd
theorem at_map {α β : Type} (f : α → β) (xs : List α) (i : Int) : atI (xs.map f) i = (atI xs i).map f := by
  unfold atI
  rw [List.length_map]
  cases ixN xs.length i with
  | none => rfl
  | some j =>
    show (xs.map f)[j]? = (xs[j]?).map f
    rw [List.getElem?_map]
theorem ok_ixSc : Op2 K (rIxSc K) ixSD .dat := fun Hd H x y d e z Q eh tx ty hk q => by
  unfold ixSD at hk
  split at hk
  · rename_i l i
    obtain ⟨a, ns, rfl, h1, rfl⟩ := scr_of tx
    cases ty
    rw [at_map] at hk
    cases e1 : atI ns i with
    | none => rw [e1] at hk; cases hk
    | some n =>
      rw [e1] at hk
      cases hk
      exact ⟨a, ns, i, n, rfl, rfl, h1, e1, q _ Hd H (Gr.refl eh) (.int n)⟩
  · cases hk
end
end PL

set_option Elab.async false
set_option linter.all false
set_option maxRecDepth 100000
namespace PL
open PySem PySem.Spec PyProof.Rows L2 PySem.W

/-! ### calls of built-ins -/
def rN (K : PySem.W.Frag) (g : List D → Option D) (m : Md) : List V → Hp → VK → Prop := fun xs H Q => ∃ Hd ds z, Ex Hd H ∧ Paired (Tp K Hd H) xs ds ∧ g ds = some z ∧ ∀ v Hd' H', Gr Hd H Hd' H' → Res K m H Hd' H' v z → Q v H'
def lenD : List D → Option D
  | [.list ds] => some (.int ds.length)
  | [.tuple ds] => some (.int ds.length)
  | [.str x] => some (.int x.length)
  | [.dict [(.none, .list ds)]] => some (.int ds.length)
  | [.dict kvs] => if kvs.all fun p => nonN p.1 then some (.int kvs.length) else none
  | _ => none
def tupleD : List D → Option D
  | [.list ds] => some (.tuple ds)
  | [.tuple ds] => some (.tuple ds)
  | _ => none
def listD : List D → Option D
  | [.list ds] => some (.list ds)
  | [.tuple ds] => some (.list ds)
  | _ => none
def intsD : List D → Option (List Int)
  | [] => some []
  | .int i :: ds => (intsD ds).map (i :: ·)
  | _ :: _ => none
def boolsD : List D → Option (List Bool)
  | [] => some []
  | .bool i :: ds => (boolsD ds).map (i :: ·)
  | _ :: _ => none
def strsD : List D → Option (List Str)
  | [] => some []
  | .str i :: ds => (strsD ds).map (i :: ·)
  | _ :: _ => none
def sumD : List D → Option D
  | [.list ds] => (intsD ds).map fun ns => .int ns.sum
  | _ => none
def allD : List D → Option D
  | [.list ds] => (boolsD ds).map fun bs => .bool (bs.all id)
  | _ => none
def anyD : List D → Option D
  | [.list ds] => (boolsD ds).map fun bs => .bool (bs.any id)
  | _ => none
def absD : List D → Option D
  | [.int i] => some (.int (if i < 0 then -i else i))
  | _ => none
def intD : List D → Option D
  | [.int i] => some (.int i)
  | [.bool b] => some (.int (if b then 1 else 0))
  | _ => none
def strD : List D → Option D
  | [.int i] => if i.natAbs.log2 < 1920 ∧ Str.length (toString i) ≤ sizeLine then some (.str (toString i)) else none
  | _ => none
def sortOk (ds : List D) : Bool := ds.all okD && (ds.all fun d => ds.all fun e => alike d e) && ((ds.all fun d => match d with
  | .tuple (_ :: _) => true
  | _ => false) || ds.all fun d => match d with
  | .tuple _ => false
  | .none => false
  | _ => true)
def sortedL (ds : List D) : List D := ds.mergeSort (dataLe false id)
def sortedD : List D → Option D
  | [.list ds] => if sortOk ds then some (.list (sortedL ds)) else none
  | _ => none
def minmaxOk (ds : List D) : Bool := ds.all okD && (ds.all fun d => ds.all fun e => alike d e) && ds.all nonN
def minL : List D → Option D
  | x :: xs => if minmaxOk (x :: xs) then some (minD x xs) else none
  | [] => none
def maxL : List D → Option D
  | x :: xs => if minmaxOk (x :: xs) then some (maxD x xs) else none
  | [] => none
def minDD : List D → Option D
  | [.list ds] => minL ds
  | [.tuple ds] => minL ds
  | [.int i, .int j] => some (.int (if j < i then j else i))
  | _ => none
def maxDD : List D → Option D
  | [.list ds] => maxL ds
  | [.tuple ds] => maxL ds
  | [.int i, .int j] => some (.int (if j > i then j else i))
  | _ => none
section
variable {X : Cx} {K : PySem.W.Frag} {m : Md} {g : List D → Option D}
theorem ok_rN : OpN K (rN K g m) g m := fun Hd H xs ds z Q eh t h q => ⟨Hd, ds, z, eh, t, h, q⟩
theorem intsD_eq : ∀ {ds : List D} {ns : List Int}, intsD ds = some ns → ds = ns.map .int
  | [], ns, h => by cases h; rfl
  | d :: ds, ns, h => by
    cases d with
    | int i =>
      cases e : intsD ds with
      | none => simp [intsD, e] at h
      | some l =>
        simp only [intsD, e, Option.map_some, Option.some.injEq] at h
        subst h
        rw [intsD_eq e]
        rfl
    | _ => simp [intsD] at h
theorem boolsD_eq : ∀ {ds : List D} {ns : List Bool}, boolsD ds = some ns → ds = ns.map .bool
  | [], ns, h => by cases h; rfl
  | d :: ds, ns, h => by
    cases d with
    | bool i =>
      cases e : boolsD ds with
      | none => simp [boolsD, e] at h
      | some l =>
        simp only [boolsD, e, Option.map_some, Option.some.injEq] at h
        subst h
        rw [boolsD_eq e]
        rfl
    | _ => simp [boolsD] at h
theorem strsD_eq : ∀ {ds : List D} {ns : List Str}, strsD ds = some ns → ds = ns.map .str
  | [], ns, h => by cases h; rfl
  | d :: ds, ns, h => by
    cases d with
    | str i =>
      cases e : strsD ds with
      | none => simp [strsD, e] at h
      | some l =>
        simp only [strsD, e, Option.map_some, Option.some.injEq] at h
        subst h
        rw [strsD_eq e]
        rfl
    | _ => simp [strsD] at h
theorem intsD_map (ns : List Int) : intsD (ns.map .int) = some ns := by
  induction ns with
  | nil => rfl
  | cons n ns ih => simp [intsD, ih]
theorem boolsD_map (ns : List Bool) : boolsD (ns.map .bool) = some ns := by
  induction ns with
  | nil => rfl
  | cons n ns ih => simp [boolsD, ih]
theorem strsD_map (ns : List Str) : strsD (ns.map .str) = some ns := by
  induction ns with
  | nil => rfl
  | cons n ns ih => simp [strsD, ih]
theorem paired1 {F : V → D → Prop} {xs : List V} {d : D} (h : Paired F xs [d]) : ∃ x, xs = [x] ∧ F x d := by
  cases h with
  | cons a b => cases b; exact ⟨_, rfl, a⟩
theorem paired2 {F : V → D → Prop} {xs : List V} {d e : D} (h : Paired F xs [d, e]) : ∃ x y, xs = [x, y] ∧ F x d ∧ F y e := by
  cases h with
  | cons a b =>
    cases b with
    | cons c t => cases t; exact ⟨_, _, rfl, a, c⟩
theorem cr_sumD (hc : X.calm = true) : CallR X (.builtin "sum") (rN X.K sumD .dat) := by
  intro pins s σ H xs us Q I rx h
  obtain ⟨Hd, ds, z, eh, t, hk, q⟩ := h
  unfold sumD at hk
  split at hk
  · rename_i l
    cases e : intsD l with
    | none => rw [e] at hk; cases hk
    | some ns =>
      rw [e] at hk
      cases hk
      have el := intsD_eq e
      subst el
      obtain ⟨x, rfl, tx⟩ := paired1 t
      cases tx with
      | lst h1 h2 _ =>
        have e2 := h2.ints
        subst e2
        exact cr_sum hc pins s σ H _ us Q I rx ⟨_, ns, rfl, .inl h1, q _ Hd H (Gr.refl eh) (.int _)⟩
  · cases hk
theorem cr_allD (hc : X.calm = true) : CallR X (.builtin "all") (rN X.K allD .dat) := by
  intro pins s σ H xs us Q I rx h
  obtain ⟨Hd, ds, z, eh, t, hk, q⟩ := h
  unfold allD at hk
  split at hk
  · rename_i l
    cases e : boolsD l with
    | none => rw [e] at hk; cases hk
    | some ns =>
      rw [e] at hk
      cases hk
      have el := boolsD_eq e
      subst el
      obtain ⟨x, rfl, tx⟩ := paired1 t
      cases tx with
      | lst h1 h2 _ =>
        have e2 := h2.bls
        subst e2
        exact cr_all hc pins s σ H _ us Q I rx ⟨_, ns, rfl, .inl h1, q _ Hd H (Gr.refl eh) (.bl _)⟩
  · cases hk
theorem cr_anyD (hc : X.calm = true) : CallR X (.builtin "any") (rN X.K anyD .dat) := by
  intro pins s σ H xs us Q I rx h
  obtain ⟨Hd, ds, z, eh, t, hk, q⟩ := h
  unfold anyD at hk
  split at hk
  · rename_i l
    cases e : boolsD l with
    | none => rw [e] at hk; cases hk
    | some ns =>
      rw [e] at hk
      cases hk
      have el := boolsD_eq e
      subst el
      obtain ⟨x, rfl, tx⟩ := paired1 t
      cases tx with
      | lst h1 h2 _ =>
        have e2 := h2.bls
        subst e2
        exact cr_any hc pins s σ H _ us Q I rx ⟨_, ns, rfl, .inl h1, q _ Hd H (Gr.refl eh) (.bl _)⟩
  · cases hk
theorem cr_absD : CallR X (.builtin "abs") (rN X.K absD .dat) := by
  intro pins s σ H xs us Q I rx h
  obtain ⟨Hd, ds, z, eh, t, hk, q⟩ := h
  unfold absD at hk
  split at hk
  · cases hk
    obtain ⟨x, rfl, tx⟩ := paired1 t
    cases tx
    exact call_abs pins s σ H _ us Q I rx ⟨_, rfl, q _ Hd H (Gr.refl eh) (.int _)⟩
  · cases hk
theorem cr_intD : CallR X (.type "int") (rN X.K intD .dat) := by
  intro pins s σ H xs us Q I rx h
  obtain ⟨Hd, ds, z, eh, t, hk, q⟩ := h
  unfold intD at hk
  split at hk
  · cases hk
    obtain ⟨x, rfl, tx⟩ := paired1 t
    cases tx
    exact call_int1 pins s σ H _ us Q I rx (.inl ⟨_, rfl, q _ Hd H (Gr.refl eh) (.int _)⟩)
  · cases hk
    obtain ⟨x, rfl, tx⟩ := paired1 t
    cases tx
    exact call_int1 pins s σ H _ us Q I rx (.inr ⟨_, rfl, q _ Hd H (Gr.refl eh) (.int _)⟩)
  · cases hk
theorem cr_strD : CallR X (.type "str") (rN X.K strD .dat) := by
  intro pins s σ H xs us Q I rx h
  obtain ⟨Hd, ds, z, eh, t, hk, q⟩ := h
  unfold strD at hk
  split at hk
  · split at hk
    · cases hk
      obtain ⟨x, rfl, tx⟩ := paired1 t
      cases tx
      rename_i hc
      exact call_str_int pins s σ H _ us Q I rx ⟨_, rfl, hc.1, q _ Hd H (Gr.refl eh) (.str _ hc.2)⟩
    · cases hk
  · cases hk
theorem cr_tupleD : CallR X (.type "tuple") (rN X.K tupleD .dat) := by
  intro pins s σ H xs us Q I rx h
  obtain ⟨Hd, ds, z, eh, t, hk, q⟩ := h
  unfold tupleD at hk
  split at hk
  · cases hk
    obtain ⟨x, rfl, tx⟩ := paired1 t
    cases tx with
    | @lst a ys l h1 h2 hz => exact call_tupF pins s σ H _ us Q I rx ⟨a, ys, rfl, .inl ⟨.inl h1, fun p o hp ho => q _ _ _ (Gr.dat eh hp) (.tup (TU.new ho) (h2.mono (ex_upd (Evl.fresh_back eh hp))) hz)⟩⟩
  · cases hk
    obtain ⟨x, rfl, tx⟩ := paired1 t
    cases tx with
    | @tup a ys l h1 h2 hz => exact call_tupF pins s σ H _ us Q I rx ⟨a, ys, rfl, .inr ⟨(tu_mono eh h1).sq, q _ Hd H (Gr.refl eh) (.tup h1 h2 hz)⟩⟩
  · cases hk
theorem cr_listD : CallR X (.type "list") (rN X.K listD .fre) := by
  intro pins s σ H xs us Q I rx h
  obtain ⟨Hd, ds, z, eh, t, hk, q⟩ := h
  unfold listD at hk
  split at hk
  · cases hk
    obtain ⟨x, rfl, tx⟩ := paired1 t
    cases tx with
    | @lst a ys l h1 h2 hz => exact call_list_of pins s σ H _ us Q I rx ⟨a, ys, rfl, .inl (.inl h1), fun p hp => q _ Hd _ (Gr.own eh hp) ⟨p, rfl, hp, Evl.fresh_back eh hp, .lst upd_same h2 hz⟩⟩
  · cases hk
    obtain ⟨x, rfl, tx⟩ := paired1 t
    cases tx with
    | @tup a ys l h1 h2 hz => exact call_list_of pins s σ H _ us Q I rx ⟨a, ys, rfl, .inr (tu_mono eh h1).sq, fun p hp => q _ Hd _ (Gr.own eh hp) ⟨p, rfl, hp, Evl.fresh_back eh hp, .lst upd_same h2 hz⟩⟩
  · cases hk
theorem clnKv_nonN : ∀ {kvs : List (D × D)}, (∃ v l, kvs = (.none, v) :: l) → (kvs.all fun p => nonN p.1) = true → False
  | _, ⟨v, l, rfl⟩, h => by simp [nonN] at h
theorem cr_lenD : CallR X (.builtin "len") (rN X.K lenD .dat) := by
  intro pins s σ H xs us Q I rx h
  obtain ⟨Hd, ds, z, eh, t, hk, q⟩ := h
  unfold lenD at hk
  split at hk
  · cases hk
    obtain ⟨x, rfl, tx⟩ := paired1 t
    cases tx with
    | @lst a ys l h1 h2 hz => exact call_len_seq pins s σ H _ us Q I rx ⟨a, ys, rfl, .inl (.inl h1), by rw [h2.length]; exact q _ Hd H (Gr.refl eh) (.int _)⟩
  · cases hk
    obtain ⟨x, rfl, tx⟩ := paired1 t
    cases tx with
    | @tup a ys l h1 h2 hz => exact call_len_seq pins s σ H _ us Q I rx ⟨a, ys, rfl, .inr (tu_mono eh h1).sq, by rw [h2.length]; exact q _ Hd H (Gr.refl eh) (.int _)⟩
  · cases hk
    obtain ⟨x, rfl, tx⟩ := paired1 t
    cases tx
    exact call_len_str pins s σ H _ us Q I rx ⟨_, rfl, by assumption, q _ Hd H (Gr.refl eh) (.int _)⟩
  · cases hk
    obtain ⟨x, rfl, tx⟩ := paired1 t
    obtain ⟨a, ns, rfl, h1, rfl⟩ := scr_of tx
    refine call_len_seq pins s σ H _ us Q I rx ⟨a, _, rfl, .inl h1, ?_⟩
    have z := q (.int ((ns.map PyData.int).length : Nat)) Hd H (Gr.refl eh) (.int _)
    rw [List.length_map] at z ⊢
    exact z
  · split at hk
    · rename_i kvs hn hz
      cases hk
      obtain ⟨x, rfl, tx⟩ := paired1 t
      obtain ⟨u, rfl, ru⟩ := vals1 rx
      cases tx with
      | scr h1 => exact absurd rfl (hn _)
      | kt _ _ _ => exact absurd hz (by simp [nonN])
      | @dK a ws l h1 h2 =>
        cases ru
        have hl := h2.length
        rw [List.length_map] at hl
        have z := q _ Hd H (Gr.refl eh) (Rp.int _)
        rw [List.length_zip, List.length_map, ← hl, Nat.min_self] at z
        exact d_len I h1 fun tt s' I' => ⟨.int ws.length, H, I', ⟨tt, rfl⟩, z⟩
      | @dT a ws l h1 h2 =>
        have hl := h2.length
        rw [List.length_map] at hl
        have z := q _ Hd H (Gr.refl eh) (Rp.int _)
        rw [List.length_zip, List.length_map, ← hl, Nat.min_self] at z
        cases ru
        obtain ⟨_, hd, ys, rel, dd⟩ := dt_rd I.hok h1
        have hy : ys.length = ws.length := (Paired.length rel).symm
        have hb := line63
        exact call_len_dictH (knd := tupleKind (mixKind X.prog X.w)) hd dd (by omega) ⟨.int ws.length, H, I.tok _, ⟨_, by rw [hy]⟩, z⟩
    · cases hk
  · cases hk
end
end PL

set_option Elab.async false
set_option linter.all false
set_option maxRecDepth 100000
namespace PL
open PySem PySem.Spec PyProof.Rows L2 PySem.W

section
variable {X : Cx} {K : PySem.W.Frag} {pins : List (Addr × Obj)} {σ : L2.St} {H Hd : Hp} {s : Shared}
/-! ### sorted -/
theorem each_zip {h : Heap} : ∀ {vs : List Value} {xs : List V} {ds : List D} {as : List Addr}, Vals xs vs → Rps K Hd xs ds → ReadsAll h vs ds as →
    EachIs (fun v (b : V × D) => RelV b.1 v ∧ Rp K Hd b.1 b.2) vs (xs.zip ds) ∧ EachIs (fun v (b : V × D) => ∃ as, Reads h v b.2 as) vs (xs.zip ds)
  | [], [], [], _, _, _, _ => ⟨.nil, .nil⟩
  | v :: vs, x :: xs, d :: ds, _, .cons r1 r2, .cons h1 h2, .cons q1 q2 => by
    obtain ⟨a, b⟩ := each_zip r2 h2 q2
    exact ⟨.cons ⟨r1, h1⟩ a, .cons ⟨_, q1⟩ b⟩
theorem each_out : ∀ {vs : List Value} {bs : List (V × D)}, EachIs (fun v (b : V × D) => RelV b.1 v ∧ Rp K Hd b.1 b.2) vs bs → Vals (bs.map (·.1)) vs ∧ Rps K Hd (bs.map (·.1)) (bs.map (·.2))
  | [], [], _ => ⟨.nil, .nil⟩
  | v :: vs, b :: bs, .cons ⟨h1, h2⟩ t => by
    obtain ⟨p, q⟩ := each_out t
    exact ⟨.cons h1 p, .cons h2 q⟩
theorem sort_zip {xs : List V} {ds : List D} (h : xs.length = ds.length) : (((xs.zip ds).mergeSort (dataLe false fun b => b.2)).map (·.2)) = sortedL ds := by
  unfold sortedL
  rw [List.map_mergeSort (r := dataLe false fun b : V × D => b.2) (s := dataLe false id) (f := fun b => b.2) (fun a _ b _ => rfl), List.map_snd_zip (by omega)]
theorem sortOk_all {ds : List D} (h : sortOk ds = true) : (∀ d ∈ ds, okD d = true) ∧ (∀ d ∈ ds, ∀ e ∈ ds, alike d e = true) ∧ Sortable ds := by
  unfold sortOk at h
  have h2 := Bool.and_eq_true_iff.mp h
  have h3 := Bool.and_eq_true_iff.mp h2.1
  refine ⟨fun d hd => List.all_eq_true.mp h3.1 d hd, fun d hd e he => List.all_eq_true.mp (List.all_eq_true.mp h3.2 d hd) e he, ?_⟩
  rcases Bool.or_eq_true_iff.mp h2.2 with a | a
  · refine .inl fun d hd => ?_
    have z := List.all_eq_true.mp a d hd
    cases d with
    | tuple l =>
      cases l with
      | nil => cases z
      | cons x r => exact ⟨x, r, rfl⟩
    | _ => cases z
  · refine .inr fun d hd => ?_
    have z := List.all_eq_true.mp a d hd
    cases d with
    | tuple l => cases z
    | none => cases z
    | _ => exact ⟨fun e => (by cases e), fun xs e => (by cases e)⟩
theorem clnAll_of {ds : List D} (h : ∀ d ∈ ds, okD d = true) : clnAll ds = true := by
  induction ds with
  | nil => rfl
  | cons d ds ih =>
    rw [clnAll, cln_plain d (okD_plain (h d List.mem_cons_self)), ih fun e he => h e (.tail _ he)]
    rfl
theorem cr_sortedL (hu : X.A.units + 64 < cLine) : CallR X (.builtin "sorted") (rN X.K sortedD .fre) := by
  intro pins s σ H xs us Q I rx h
  obtain ⟨Hd, ds, z, eh, t, hk, q⟩ := h
  unfold sortedD at hk
  split at hk
  · rename_i l
    split at hk
    · rename_i hs
      cases hk
      obtain ⟨h1, h2, h3⟩ := sortOk_all hs
      obtain ⟨x, rfl, tx⟩ := paired1 t
      obtain ⟨u, rfl, ru⟩ := vals1 rx
      cases tx with
      | @lst a ys _ k1 k2 kz =>
        cases ru
        obtain ⟨its, rv, pl, hz⟩ := I.list (.inl k1)
        have h4 : l.length ≤ sizeLine := by rw [← k2.length]; exact kz
        obtain ⟨as, rd⟩ := (k2.mono eh).reads I (clnAll_of h1) rv
        obtain ⟨e1, e2⟩ := each_zip (K := X.K) rv k2 rd
        have hl := k2.length
        have em : (ys.zip l).map (·.2) = l := List.map_snd_zip (by omega)
        have en : (ys.zip l).length = l.length := by rw [List.length_zip]; omega
        refine sorted_data (bs := ys.zip l) (enc := fun b => b.2) (R := fun v (b : V × D) => RelV b.1 v ∧ Rp X.K Hd b.1 b.2) pl.isList e1 e2 (by rw [em]; exact fun d hd e he => h2 d hd e he) (by rw [em]; exact h3) (by omega) (fun b hb => ?_) fun out ho eo => ?_
        · have hb2 : b.2 ∈ l := by rw [← em]; exact List.mem_map_of_mem hb
          have := okD_depth (h1 _ hb2)
          omega
        · obtain ⟨p1, p2⟩ := each_out eo
          rw [sort_zip (by omega)] at p2
          have hlen : (((ys.zip l).mergeSort (dataLe false fun b => b.2)).map (·.1)).length = l.length := by rw [List.length_map, List.length_mergeSort, en]
          obtain ⟨c, hc⟩ := sortedAll_at s.heap its out.toArray
          have nf : H (s.heap.objs.size + 1) = none := I.hok.fresh (Nat.le_succ _)
          refine ⟨.ref (s.heap.objs.size + 1), upd H (s.heap.objs.size + 1) (.lst (((ys.zip l).mergeSort (dataLe false fun b => b.2)).map (·.1))), I.laid (t' := s.toks) (fun b o e => sortedAll_old e) (Nat.le_succ _) ⟨by rw [hlen]; exact h4, out, c, p1, ?_⟩, rfl, ?_⟩
          · exact hc
          · exact q _ Hd _ (Gr.own eh nf) ⟨_, rfl, nf, Evl.fresh_back eh nf, .lst upd_same p2 (by rw [hlen]; exact h4)⟩
    · cases hk
  · cases hk

/-! ### min, max -/
theorem minmax_all {ds : List D} (h : minmaxOk ds = true) : (∀ d ∈ ds, okD d = true) ∧ AlikeAll ds := by
  unfold minmaxOk at h
  have h1 := Bool.and_eq_true_iff.mp h
  have h3 := Bool.and_eq_true_iff.mp h1.1
  exact ⟨fun d hd => List.all_eq_true.mp h3.1 d hd, fun d hd e he => List.all_eq_true.mp (List.all_eq_true.mp h3.2 d hd) e he, fun d hd => nonN_ne (List.all_eq_true.mp h1.2 d hd)⟩
theorem minD_mem (x : D) : ∀ xs : List D, minD x xs ∈ x :: xs := by
  intro xs
  unfold minD
  induction xs generalizing x with
  | nil => exact List.mem_cons_self
  | cons y ys ih =>
    rw [List.foldl_cons]
    split
    · exact .tail _ (ih y)
    · rcases List.mem_cons.mp (ih x) with h | h
      · rw [h]; exact List.mem_cons_self
      · exact .tail _ (.tail _ h)
theorem maxD_mem (x : D) : ∀ xs : List D, maxD x xs ∈ x :: xs := by
  intro xs
  unfold maxD
  induction xs generalizing x with
  | nil => exact List.mem_cons_self
  | cons y ys ih =>
    rw [List.foldl_cons]
    split
    · exact .tail _ (ih y)
    · rcases List.mem_cons.mp (ih x) with h | h
      · rw [h]; exact List.mem_cons_self
      · exact .tail _ (.tail _ h)
theorem depthAll_le {ds : List D} {k : Nat} (h : ∀ d ∈ ds, d.depth ≤ k) : PyData.depthAll ds ≤ k := by
  induction ds with
  | nil => simp [PyData.depthAll]
  | cons d ds ih =>
    rw [PyData.depthAll]
    exact Nat.max_le.mpr ⟨h d List.mem_cons_self, ih fun e he => h e (.tail _ he)⟩
/-- the item that reads as z is the one at its place -/
theorem pick_item {h' : Heap} {vs : List Value} {xs : List V} {ds : List D} {as bs : List Addr} {i : Nat} {v : Value} {z : D} (rv : Vals xs vs) (r : Rps K Hd xs ds) (rd : ReadsAll h' vs ds as) (hv : vs[i]? = some v) (rz : Reads h' v z bs) (hz : z ∈ ds) (ha : ∀ d ∈ ds, ∀ e ∈ ds, alike d e = true) :
    ∃ x, RelV x v ∧ Rp K Hd x z := by
  have lv := rv.length
  have lr := r.length
  obtain ⟨hi, _⟩ := List.getElem?_eq_some_iff.mp hv
  have hx : xs[i]? = some xs[i] := List.getElem?_eq_getElem (by omega)
  obtain ⟨u, hu, ru⟩ := rv.get hx
  rw [hv] at hu
  cases hu
  obtain ⟨d, hd, rp⟩ := r.get' hx
  obtain ⟨cs, r2⟩ := reads_at rd hv hd
  have e := alike_unique d z v _ _ (ha d (List.mem_of_getElem? hd) z hz) r2 rz
  exact ⟨_, ru, e ▸ rp⟩
where
  reads_at {h : Heap} : ∀ {vs : List Value} {ds : List D} {as : List Addr} {i : Nat} {v : Value} {d : D}, ReadsAll h vs ds as → vs[i]? = some v → ds[i]? = some d → ∃ cs, Reads h v d cs
    | [], _, _, _, _, _, _, h, _ => by simp at h
    | _ :: _, _ :: _, _, 0, v, d, .cons r _, h1, h2 => by cases h1; cases h2; exact ⟨_, r⟩
    | _ :: _, _ :: _, _, i + 1, v, d, .cons _ t, h1, h2 => reads_at (i := i) t (by simpa using h1) (by simpa using h2)
theorem readsAll_keeps {h h' : Heap} {vs : List Value} {ds : List D} {as : List Addr} (k : ∀ b o, h.get? b = some o → h'.get? b = some o) (r : ReadsAll h vs ds as) : ReadsAll h' vs ds as := PyProof.Rows.ReadsAll.keeps k r
theorem cr_minD (hc : X.calm = true) (hu : X.A.units + 64 < cLine) : CallR X (.builtin "min") (rN X.K minDD .dat) := by
  intro pins s σ H xs us Q I rx h
  obtain ⟨Hd, ds, z, eh, t, hk, q⟩ := h
  unfold minDD at hk
  split at hk
  · rename_i l
    cases l with
    | nil => cases hk
    | cons y l =>
      have hk2 : (if minmaxOk (y :: l) then some (minD y l) else none) = some z := hk
      split at hk2
      · rename_i hs
        cases hk2
        obtain ⟨h1, h2⟩ := minmax_all hs
        obtain ⟨x, rfl, tx⟩ := paired1 t
        obtain ⟨u, rfl, ru⟩ := vals1 rx
        cases tx with
        | @lst a ys _ k1 k2 _ =>
          cases ru
          obtain ⟨its, rv, pl, _⟩ := I.list (.inl k1)
          obtain ⟨as, rd⟩ := (k2.mono eh).reads I (clnAll_of h1) rv
          have hdep := depthAll_le fun d hd => okD_depth (h1 d hd)
          refine min_list_data (I.ok.hd hc) pl.isList rd h2 (by omega) fun i v h' tk bs hv hr kp => ?_
          obtain ⟨w, rw', rp⟩ := pick_item rv k2 (readsAll_keeps kp rd) (by simpa using hv) hr (minD_mem y l) h2.1
          exact ⟨w, H, I.kept kp, rw', q w Hd H (Gr.refl eh) rp⟩
      · cases hk2
  · rename_i l
    cases l with
    | nil => cases hk
    | cons y l =>
      have hk2 : (if minmaxOk (y :: l) then some (minD y l) else none) = some z := hk
      split at hk2
      · rename_i hs
        cases hk2
        obtain ⟨h1, h2⟩ := minmax_all hs
        obtain ⟨x, rfl, tx⟩ := paired1 t
        obtain ⟨u, rfl, ru⟩ := vals1 rx
        cases tx with
        | @tup a ys _ k1 k2 _ =>
          cases ru
          obtain ⟨its, rv, pl, _⟩ := I.tuple ((tu_mono (eh) k1).sq)
          obtain ⟨as, rd⟩ := (k2.mono eh).reads I (clnAll_of h1) rv
          have hdep := depthAll_le fun d hd => okD_depth (h1 d hd)
          refine min_tuple_data (I.ok.hd hc) pl rd h2 (by omega) fun i v h' tk bs hv hr kp => ?_
          obtain ⟨w, rw', rp⟩ := pick_item rv k2 (readsAll_keeps kp rd) (by simpa using hv) hr (minD_mem y l) h2.1
          exact ⟨w, H, I.kept kp, rw', q w Hd H (Gr.refl eh) rp⟩
      · cases hk2
  · cases hk
    obtain ⟨x, y, rfl, tx, ty⟩ := paired2 t
    cases tx
    cases ty
    exact call_min2 hc pins s σ H _ us Q I rx ⟨_, _, rfl, q _ Hd H (Gr.refl eh) (.int _)⟩
  · cases hk
theorem cr_maxD (hc : X.calm = true) (hu : X.A.units + 64 < cLine) : CallR X (.builtin "max") (rN X.K maxDD .dat) := by
  intro pins s σ H xs us Q I rx h
  obtain ⟨Hd, ds, z, eh, t, hk, q⟩ := h
  unfold maxDD at hk
  split at hk
  · rename_i l
    cases l with
    | nil => cases hk
    | cons y l =>
      have hk2 : (if minmaxOk (y :: l) then some (maxD y l) else none) = some z := hk
      split at hk2
      · rename_i hs
        cases hk2
        obtain ⟨h1, h2⟩ := minmax_all hs
        obtain ⟨x, rfl, tx⟩ := paired1 t
        obtain ⟨u, rfl, ru⟩ := vals1 rx
        cases tx with
        | @lst a ys _ k1 k2 _ =>
          cases ru
          obtain ⟨its, rv, pl, _⟩ := I.list (.inl k1)
          obtain ⟨as, rd⟩ := (k2.mono eh).reads I (clnAll_of h1) rv
          have hdep := depthAll_le fun d hd => okD_depth (h1 d hd)
          refine max_list_data (I.ok.hd hc) pl.isList rd h2 (by omega) fun i v h' tk bs hv hr kp => ?_
          obtain ⟨w, rw', rp⟩ := pick_item rv k2 (readsAll_keeps kp rd) (by simpa using hv) hr (maxD_mem y l) h2.1
          exact ⟨w, H, I.kept kp, rw', q w Hd H (Gr.refl eh) rp⟩
      · cases hk2
  · rename_i l
    cases l with
    | nil => cases hk
    | cons y l =>
      have hk2 : (if minmaxOk (y :: l) then some (maxD y l) else none) = some z := hk
      split at hk2
      · rename_i hs
        cases hk2
        obtain ⟨h1, h2⟩ := minmax_all hs
        obtain ⟨x, rfl, tx⟩ := paired1 t
        obtain ⟨u, rfl, ru⟩ := vals1 rx
        cases tx with
        | @tup a ys _ k1 k2 _ =>
          cases ru
          obtain ⟨its, rv, pl, _⟩ := I.tuple ((tu_mono (eh) k1).sq)
          obtain ⟨as, rd⟩ := (k2.mono eh).reads I (clnAll_of h1) rv
          have hdep := depthAll_le fun d hd => okD_depth (h1 d hd)
          refine max_tuple_data (I.ok.hd hc) pl rd h2 (by omega) fun i v h' tk bs hv hr kp => ?_
          obtain ⟨w, rw', rp⟩ := pick_item rv k2 (readsAll_keeps kp rd) (by simpa using hv) hr (maxD_mem y l) h2.1
          exact ⟨w, H, I.kept kp, rw', q w Hd H (Gr.refl eh) rp⟩
      · cases hk2
  · cases hk
    obtain ⟨x, y, rfl, tx, ty⟩ := paired2 t
    cases tx
    cases ty
    exact call_max2 hc pins s σ H _ us Q I rx ⟨_, _, rfl, q _ Hd H (Gr.refl eh) (.int _)⟩
  · cases hk
end
end PL

set_option Elab.async false
set_option linter.all false
set_option maxRecDepth 100000
namespace PL
open PySem PySem.Spec PyProof.Rows L2 PySem.W

section
variable {X : Cx} {e a b c : Expr} {es rest : List Expr} {m : Md} {O : List Nat} {f g h : Env → Option D} {as : Env → Option (List D)} {fe ge he : Env → Option (D × Env)} {ase : Env → Option (List D × Env)} {pos p : Pos} {x : Str} {id T : String} {k : List D → Option D}
/-! ### arguments -/
theorem bind_some {α β : Type} {o : Option α} {k : α → Option β} {z : β} (h : o.bind k = some z) : ∃ y, o = some y ∧ k y = some z := by
  cases o with
  | none => cases h
  | some y => exact ⟨y, rfl, h⟩
theorem rps_paired {K : PySem.W.Frag} {Hd H : Hp} {vs : List V} {ds : List D} (s : Ex Hd H) (r : Rps K Hd vs ds) : Paired (Tp K Hd H) vs ds := by
  induction r using Rps.rec (motive_1 := fun _ _ _ => True) with
  | nil => exact .nil
  | cons h _ _ ih => exact .cons (h.tp s) ih
  | _ => trivial
theorem p_anil : PA X [] (tPs X.K m O anil) := PA.imp pa_nil fun σ H Q ⟨fc, ρ, Hd, ds, S, hf, q⟩ => by
  cases hf
  refine q [] Hd H (Gr.refl S.sub) ?_
  cases m
  · exact .nil
  · exact .nil
  · exact .nil
theorem p_aconsB (ha : PE X e (tP X.K .bor O f)) (hr : PA X es (tPs X.K .bor O as)) (hs : starEach (e :: es) X.env = (false, eval e X.env) :: starEach es X.env := by rfl) : PA X (e :: es) (tPs X.K .bor O (acons f as)) :=
  PA.imp (pa_cons ha hr hs) fun σ H Q ⟨fc, ρ, Hd, ds, S, hf, q⟩ => by
    unfold acons at hf
    obtain ⟨x, h1, hf⟩ := bind_some hf
    obtain ⟨xs, h2, hf⟩ := bind_some hf
    cases hf
    exact ⟨fc, ρ, Hd, x, S, h1, fun v1 Hd1 H1 g1 r1 => ⟨fc, ρ, Hd1, xs, S.grow g1, h2, fun vs Hd2 H2 g2 r2 => q _ Hd2 H2 (g1.trans g2) (.cons (Tp.mono g2.d g2.h r1) r2)⟩⟩
theorem p_aconsD (ha : PE X e (tP X.K .dat O f)) (hr : PA X es (tPs X.K .dat O as)) (hs : starEach (e :: es) X.env = (false, eval e X.env) :: starEach es X.env := by rfl) : PA X (e :: es) (tPs X.K .dat O (acons f as)) :=
  PA.imp (pa_cons ha hr hs) fun σ H Q ⟨fc, ρ, Hd, ds, S, hf, q⟩ => by
    unfold acons at hf
    obtain ⟨x, h1, hf⟩ := bind_some hf
    obtain ⟨xs, h2, hf⟩ := bind_some hf
    cases hf
    exact ⟨fc, ρ, Hd, x, S, h1, fun v1 Hd1 H1 g1 r1 => ⟨fc, ρ, Hd1, xs, S.grow g1, h2, fun vs Hd2 H2 g2 r2 => q _ Hd2 H2 (g1.trans g2) (.cons (Rp.mono g2.d r1) r2)⟩⟩
theorem p_anilE : PA X [] (tEs X.K O anilE) := PA.imp pa_nil fun σ H Q ⟨fc, ρ, Hd, ds, ρ', S, hf, q⟩ => by
  cases hf
  exact q [] Hd H S (Evl.Ex.refl _) .nil
theorem p_aconsE (ha : PE X e (tE X.K O fe)) (hr : PA X es (tEs X.K O ase)) (hs : starEach (e :: es) X.env = (false, eval e X.env) :: starEach es X.env := by rfl) : PA X (e :: es) (tEs X.K O (aconsE fe ase)) :=
  PA.imp (pa_cons ha hr hs) fun σ H Q ⟨fc, ρ, Hd, ds, ρ', S, hf, q⟩ => by
    unfold aconsE at hf
    obtain ⟨x, h1, hf⟩ := bind_some hf
    obtain ⟨xs, h2, hf⟩ := bind_some hf
    cases hf
    exact ⟨fc, ρ, Hd, x.1, x.2, S, h1, fun v1 Hd1 H1 S1 e1 r1 => ⟨fc, x.2, Hd1, xs.1, xs.2, S1, h2, fun vs Hd2 H2 S2 e2 r2 => q _ Hd2 H2 S2 (e1.trans e2) (.cons (Rp.mono e2 r1) r2)⟩⟩
/-! ### calls -/
theorem t_fn {r : List V → Hp → VK → Prop} (hk : OpN X.K r k m) : ∀ σ H Q, tP X.K m O (fn k as) σ H Q → tCB r (tPs X.K .bor O as) σ H Q := fun σ H Q ⟨fc, ρ, Hd, z, S, hf, q⟩ => by
  unfold fn at hf
  obtain ⟨ds, h1, hf⟩ := bind_some hf
  exact ⟨fc, ρ, Hd, ds, S, h1, fun vs Hd1 H1 g1 r1 => hk Hd1 H1 vs ds z Q g1.s r1 hf fun v Hd' H' g2 r2 => q v Hd' H' (g1.trans g2) (Res.lift g1 r2)⟩
theorem t_fnE {r : List V → Hp → VK → Prop} (hk : OpN X.K r k .dat) : ∀ σ H Q, tE X.K O (fnE k ase) σ H Q → tCB r (tEs X.K O ase) σ H Q := fun σ H Q ⟨fc, ρ, Hd, z, ρ', S, hf, q⟩ => by
  unfold fnE at hf
  obtain ⟨ds, h1, hf⟩ := bind_some hf
  obtain ⟨w, h2, hf⟩ := bind_some hf
  cases hf
  exact ⟨fc, ρ, Hd, ds.1, ds.2, S, h1, fun vs Hd1 H1 S1 e1 r1 => hk Hd1 H1 vs ds.1 _ Q S1.sub (rps_paired S1.sub r1) h2 fun v Hd' H' g2 r2 => q v Hd' H' (S1.grow g2) (e1.trans g2.d) r2⟩
theorem OpN.dat {K : PySem.W.Frag} {r : List V → Hp → VK → Prop} (h : OpN K r k .fre) (hl : ∀ ds z, k ds = some z → isLst z = true) : OpN K r k .dat := fun Hd H xs ds z Q eh t hk q =>
  h Hd H xs ds z Q eh t hk fun v Hd' H' g ⟨p, ev, np, nd, w⟩ => by
    subst ev
    obtain ⟨o, ho⟩ := w.there
    have hll := ow_lst w ho (hl _ _ hk)
    refine q _ (upd Hd' p o) H' ⟨g.d.trans (ex_upd nd), g.h, fun b u eb => ?_, fun b u eb nb => ?_⟩ (w.settle nd ho hll)
    · by_cases hb : b = p
      · subst hb
        rw [upd_same] at eb
        cases eb
        exact ho
      · rw [upd_ne hb] at eb
        exact g.s b u eb
    · by_cases hb : b = p
      · subst hb
        exact np
      · rw [upd_ne hb] at eb
        exact g.n b u eb nb
theorem p_fnB (hr : CallR X (.builtin id) (rN X.K k m)) (hg : Gl X x) (hm : X.mg x = none) (hv : bootBuiltins x = some (.builtin id)) (ha : PA X (e :: es) (tPs X.K .bor O as)) (hn : x ≠ "__name__" := by decide) (hdb : (x == ("__debug__" : Str)) = false := by decide)
    (he : starEach (e :: es) X.env = (false, eval e X.env) :: starEach es X.env := by rfl) (hpl : (backTo pos (starEach es X.env)).any (·.1) = false := by rfl) : PE X (.Call (.Name x p) (e :: es) [] pos) (tP X.K m O (fn k as)) :=
  PE.imp (pe_callB hr hg hm hv ha hn hdb he hpl) (t_fn ok_rN)
theorem p_fnT (hr : CallR X (.type T) (rN X.K k m)) (hg : Gl X x) (hm : X.mg x = none) (hv : bootBuiltins x = some (.type T)) (ha : PA X (e :: es) (tPs X.K .bor O as)) (hn : x ≠ "__name__" := by decide) (hdb : (x == ("__debug__" : Str)) = false := by decide)
    (he : starEach (e :: es) X.env = (false, eval e X.env) :: starEach es X.env := by rfl) (hpl : (backTo pos (starEach es X.env)).any (·.1) = false := by rfl) : PE X (.Call (.Name x p) (e :: es) [] pos) (tP X.K m O (fn k as)) :=
  PE.imp (pe_callTy hr hg hm hv ha hn hdb he hpl) (t_fn ok_rN)
theorem p_fnBE (hr : CallR X (.builtin id) (rN X.K k m)) (hg : Gl X x) (hm : X.mg x = none) (hv : bootBuiltins x = some (.builtin id)) (ha : PA X (e :: es) (tEs X.K O ase)) (hmd : OpN X.K (rN X.K k m) k .dat) (hn : x ≠ "__name__" := by decide) (hdb : (x == ("__debug__" : Str)) = false := by decide)
    (he : starEach (e :: es) X.env = (false, eval e X.env) :: starEach es X.env := by rfl) (hpl : (backTo pos (starEach es X.env)).any (·.1) = false := by rfl) : PE X (.Call (.Name x p) (e :: es) [] pos) (tE X.K O (fnE k ase)) :=
  PE.imp (pe_callB hr hg hm hv ha hn hdb he hpl) (t_fnE hmd)
theorem p_fnTE (hr : CallR X (.type T) (rN X.K k m)) (hg : Gl X x) (hm : X.mg x = none) (hv : bootBuiltins x = some (.type T)) (ha : PA X (e :: es) (tEs X.K O ase)) (hmd : OpN X.K (rN X.K k m) k .dat) (hn : x ≠ "__name__" := by decide) (hdb : (x == ("__debug__" : Str)) = false := by decide)
    (he : starEach (e :: es) X.env = (false, eval e X.env) :: starEach es X.env := by rfl) (hpl : (backTo pos (starEach es X.env)).any (·.1) = false := by rfl) : PE X (.Call (.Name x p) (e :: es) [] pos) (tE X.K O (fnE k ase)) :=
  PE.imp (pe_callTy hr hg hm hv ha hn hdb he hpl) (t_fnE hmd)

/-! a def of the text: what it promises -/
/-- a def that changes nothing -/
def SpP (K : PySem.W.Frag) (n : Nat) (k : List D → Option D) : Sp := fun vs H Q _ => vs.length = n ∧ ∃ Hd ds z, Ex Hd H ∧ Rps K Hd vs ds ∧ k ds = some z ∧ ∀ v Hd' H', Gr Hd H Hd' H' → Rp K Hd' v z → Q v H'
/-- a def that changes its first argument alone -/
def SpW (K : PySem.W.Frag) (n : Nat) (k : D → List D → Option (D × D)) : Sp := fun vs H Q _ => vs.length = n ∧ ∃ Hd w wr ds z w', Ex Hd H ∧ vs = .ref w :: wr ∧ Hd w = none ∧ Rps K Hd wr ds ∧ (∃ d, Ow K Hd H w d ∧ k d ds = some (z, w')) ∧
  ∀ v Hd' H', Ex Hd Hd' → Ex Hd' H' → (∀ b o, b ≠ w → H b = some o → H' b = some o) → (∀ p o, Hd' p = some o → Hd p = none → H p = none) → Ow K Hd' H' w w' → Rp K Hd' v z → Q v H'
/-- the def x stands at its level and keeps its promise -/
def Df (P : Program) (w : World) (K : PySem.W.Frag) (mg : Str → Option Value) (base : Heap) (lv : Nat) (x : Str) (sp : Sp) : Prop :=
  ∃ (fa : Addr) (fd : FuncData) (ps : List Str), FnOk P w K mg base CX0 lv fa fd ps sp ∧ mg x = some (.ref fa) ∧ PySem.W.keepIn K (.ref fa) = true ∧ Binds K fd ps []
variable {n lv : Nat} {kw : D → List D → Option (D × D)}
theorem p_call (F : Df X.prog X.w X.K X.mg X.base lv x (SpP X.K n k)) (hr : Room lv X.A) (hg : Gl X x) (ha : PA X (e :: es) (tPs X.K .dat O as)) (hl : (e :: es).length = n := by rfl) (hdb : (x == ("__debug__" : Str)) = false := by decide) (he : starEach (e :: es) X.env = (false, eval e X.env) :: starEach es X.env := by rfl)
    (hpl : (backTo pos (starEach es X.env)).any (·.1) = false := by rfl) (hlen : ∀ ρ ds, as ρ = some ds → ds.length = n) : PE X (.Call (.Name x p) (e :: es) [] pos) (tP X.K .dat O (fn k as)) := by
  obtain ⟨fa, fd, ps, F, hm, hk, hb⟩ := F
  refine PE.imp (pe_call F hr hg hm hk hb .nil pass0 ha hdb he hpl) fun σ H Q ⟨fc, ρ, Hd, z, S, hf, q⟩ => ?_
  unfold fn at hf
  obtain ⟨ds, h1, hf⟩ := bind_some hf
  refine ⟨fc, ρ, Hd, ds, S, h1, fun vs Hd1 H1 g1 r1 => ?_⟩
  show SpP X.K n k (vs ++ []) H1 Q E0
  rw [List.append_nil]
  exact ⟨by rw [Rps.length r1]; exact hlen _ _ h1, Hd1, ds, z, g1.s, r1, hf, fun v Hd' H' g2 r2 => q v Hd' H' (g1.trans g2) r2⟩
theorem p_callE (F : Df X.prog X.w X.K X.mg X.base lv x (SpP X.K n k)) (hr : Room lv X.A) (hg : Gl X x) (ha : PA X (e :: es) (tEs X.K O ase)) (hl : (e :: es).length = n := by rfl) (hdb : (x == ("__debug__" : Str)) = false := by decide) (he : starEach (e :: es) X.env = (false, eval e X.env) :: starEach es X.env := by rfl)
    (hpl : (backTo pos (starEach es X.env)).any (·.1) = false := by rfl) (hlen : ∀ ρ ds, ase ρ = some ds → ds.1.length = n) : PE X (.Call (.Name x p) (e :: es) [] pos) (tE X.K O (fnE k ase)) := by
  obtain ⟨fa, fd, ps, F, hm, hk, hb⟩ := F
  refine PE.imp (pe_call F hr hg hm hk hb .nil pass0 ha hdb he hpl) fun σ H Q ⟨fc, ρ, Hd, z, ρ', S, hf, q⟩ => ?_
  unfold fnE at hf
  obtain ⟨ds, h1, hf⟩ := bind_some hf
  obtain ⟨w, h2, hf⟩ := bind_some hf
  cases hf
  refine ⟨fc, ρ, Hd, ds.1, ds.2, S, h1, fun vs Hd1 H1 S1 e1 r1 => ?_⟩
  show SpP X.K n k (vs ++ []) H1 Q E0
  rw [List.append_nil]
  exact ⟨by rw [Rps.length r1]; exact hlen _ _ h1, Hd1, ds.1, _, S1.sub, r1, h2, fun v Hd' H' g2 r2 => q v Hd' H' (S1.grow g2) (e1.trans g2.d) r2⟩
/-- the meaning of f(w, ..), w in slot i -/
def fnW (i : Nat) (kw : D → List D → Option (D × D)) (ase : Env → Option (List D × Env)) : Env → Option (D × Env) := fun ρ => (var i ρ).bind fun _ => (ase ρ).bind fun xs => (var i xs.2).bind fun d => (kw d xs.1).bind fun z => some (z.1, xs.2.set i (some z.2))
theorem var_at {i : Nat} {ρ : Env} {d : D} (h : var i ρ = some d) : ρ[i]? = some (some d) := by
  unfold var at h
  cases z : ρ[i]? with
  | none => rw [z] at h; cases h
  | some w =>
    rw [z] at h
    have hf' : w = some d := h
    rw [hf']
/-- the state behind a change of the object in slot i -/
theorem SR.changed {K : PySem.W.Frag} {fc : FC} {ρ : Env} {Hd Hd' H H' : Hp} {σ : L2.St} {i : Nat} {w : Addr} {d d' : D} (S : SR K fc O ρ Hd σ H) (hO : i ∈ O) (hv : ρ[i]? = some (some d)) (hw : σ[i]? = some (some (.ref w))) (e : Ex Hd Hd') (s : Ex Hd' H')
    (k : ∀ b o, b ≠ w → H b = some o → H' b = some o) (n : ∀ p o, Hd' p = some o → Hd p = none → H p = none) (o : Ow K Hd' H' w d') : SR K fc O (ρ.set i (some d')) Hd' σ H' := by
  obtain ⟨v0, h1, _, h3⟩ := S.val i d hv
  rw [hw] at h1
  cases h1
  obtain ⟨a0, ea, na, wa, fa⟩ := h3 hO
  cases ea
  have own : ∀ a, Hd a = none → (∃ o, H a = some o) → Hd' a = none := fun a z ⟨o, ho⟩ => by
    cases q : Hd' a with
    | none => rfl
    | some u => rw [n a u q z] at ho; cases ho
  refine ⟨s, S.dat.trans e, fun b u eb nb => ?_, fun p u ep np => ?_, fun p hp => ?_, fun j dj hj => ?_, fun j l a dj dl hj hl h1 h2 => ?_, by rw [List.length_set]; exact S.len⟩
  · have hbw : b ≠ w := by
      rintro rfl
      rcases fa with f | f
      · rw [f] at eb; cases eb
      · exact nb i f
    exact k b u hbw (S.frm b u eb nb)
  · cases q : Hd p with
    | some u' => exact S.new p u' q np
    | none => exact S.fresh (n p u ep q)
  · obtain ⟨p1, p2, dd, p3⟩ := S.io p hp
    refine ⟨p1, p2, ?_⟩
    by_cases hj : i = p.1
    · subst hj
      obtain ⟨hlt, _⟩ := List.getElem?_eq_some_iff.mp hv
      exact ⟨d', by rw [List.getElem?_set_self hlt]⟩
    · exact ⟨dd, by rw [List.getElem?_set_ne hj]; exact p3⟩
  · by_cases hij : i = j
    · subst hij
      obtain ⟨hlt, _⟩ := List.getElem?_eq_some_iff.mp hv
      rw [List.getElem?_set_self hlt] at hj
      cases hj
      exact ⟨_, hw, fun z => absurd hO z, fun _ => ⟨w, rfl, own w na wa.there, o, fa⟩⟩
    · rw [List.getElem?_set_ne hij] at hj
      obtain ⟨v, g1, g2, g3⟩ := S.val j dj hj
      refine ⟨v, g1, fun z => (g2 z).mono e, fun z => ?_⟩
      obtain ⟨b, rfl, nb, wb, fb⟩ := g3 z
      have hbw : b ≠ w := by
        rintro rfl
        exact hij (S.ap i j b d dj hO z hv hj hw g1)
      exact ⟨b, rfl, own b nb wb.there, wb.move e fun u hu => k b u hbw hu, fb⟩
  · have back : ∀ {q : Nat} {x : D}, (ρ.set i (some d'))[q]? = some (some x) → ∃ y, ρ[q]? = some (some y) := fun {q x} hq => by
      by_cases hiq : i = q
      · subst hiq
        exact ⟨d, hv⟩
      · rw [List.getElem?_set_ne hiq] at hq
        exact ⟨x, hq⟩
    obtain ⟨y1, k1⟩ := back h1
    obtain ⟨y2, k2⟩ := back h2
    exact fun q1 q2 => S.ap j l a y1 y2 hj hl k1 k2 q1 q2
end
end PL

set_option Elab.async false
set_option linter.all false
set_option maxRecDepth 100000
namespace PL
open PySem PySem.Spec PyProof.Rows L2 PySem.W

section
variable {X : Cx} {e a b c : Expr} {es rest : List Expr} {m : Md} {O : List Nat} {f g h : Env → Option D} {as : Env → Option (List D)} {fe ge he : Env → Option (D × Env)} {ase : Env → Option (List D × Env)} {pos p : Pos} {x : Str} {id T : String} {k : List D → Option D}
variable {n lv : Nat} {kw : D → List D → Option (D × D)}
/-- f(w, ..), w in slot i -/
theorem p_callW {i : Nat} {wx : Str} {wpos : Pos} (F : Df X.prog X.w X.K X.mg X.base lv x (SpW X.K (n + 1) kw)) (hr : Room lv X.A) (hg : Gl X x) (hw : PE X (.Name wx wpos) (tVar i)) (hO : i ∈ O) (ha : PA X es (tEs X.K O ase))
    (hlen : ∀ ρ ds, ase ρ = some ds → ds.1.length = n) (hdb : (x == ("__debug__" : Str)) = false := by decide)
    (he : starEach (.Name wx wpos :: es) X.env = (false, eval (.Name wx wpos) X.env) :: starEach es X.env := by rfl)
    (hpl : (backTo pos (starEach es X.env)).any (·.1) = false := by rfl) : PE X (.Call (.Name x p) (.Name wx wpos :: es) [] pos) (tE X.K O (fnW i kw ase)) := by
  obtain ⟨fa, fd, ps, F, hm, hk, hb⟩ := F
  refine PE.imp (pe_call F hr hg hm hk hb .nil pass0 (pa_cons hw ha he) hdb he hpl) fun σ H Q ⟨fc, ρ, Hd, z, ρ', S, hf, q⟩ => ?_
  unfold fnW at hf
  obtain ⟨d0, h0, hf⟩ := bind_some hf
  obtain ⟨ds, h1, hf⟩ := bind_some hf
  obtain ⟨d, h2, hf⟩ := bind_some hf
  obtain ⟨z2, h3, hf⟩ := bind_some hf
  cases hf
  obtain ⟨v0, s0, _, t0⟩ := S.val i d0 (var_at h0)
  obtain ⟨w, rfl, _, _, _⟩ := t0 hO
  refine ⟨.ref w, s0, fc, ρ, Hd, ds.1, ds.2, S, h1, fun vs Hd1 H1 S1 e1 r1 => ?_⟩
  show SpW X.K (n + 1) kw ((.ref w :: vs) ++ []) H1 Q E0
  rw [List.append_nil]
  obtain ⟨v1, s1, _, t1⟩ := S1.val i d (var_at h2)
  rw [s0] at s1
  cases s1
  obtain ⟨w1, ew, nw, ow, _⟩ := t1 hO
  cases ew
  refine ⟨by rw [List.length_cons, Rps.length r1, hlen _ _ h1], Hd1, w, vs, ds.1, z2.1, z2.2, S1.sub, rfl, nw, r1, ⟨d, ow, h3⟩, fun v Hd' H' a1 a2 a3 a4 a5 a6 => ?_⟩
  exact q v Hd' H' (S1.changed hO (var_at h2) s0 a1 a2 a3 a4 a5) (e1.trans a1) a6

/-! ### displays -/
def LenA (as : Env → Option (List D)) (n : Nat) : Prop := ∀ ρ ds, as ρ = some ds → ds.length = n
theorem len_nil : LenA anil 0 := fun ρ ds h => by cases h; rfl
theorem len_cons {f : Env → Option D} {as : Env → Option (List D)} {n : Nat} (h : LenA as n) : LenA (acons f as) (n + 1) := fun ρ ds hd => by
  unfold acons at hd
  obtain ⟨x, h1, hd⟩ := bind_some hd
  obtain ⟨xs, h2, hd⟩ := bind_some hd
  cases hd
  rw [List.length_cons, h ρ xs h2]
def LenE (as : Env → Option (List D × Env)) (n : Nat) : Prop := ∀ ρ ds, as ρ = some ds → ds.1.length = n
theorem len_nilE : LenE anilE 0 := fun ρ ds h => by cases h; rfl
theorem len_consE {f : Env → Option (D × Env)} {as : Env → Option (List D × Env)} {n : Nat} (h : LenE as n) : LenE (aconsE f as) (n + 1) := fun ρ ds hd => by
  unfold aconsE at hd
  obtain ⟨x, h1, hd⟩ := bind_some hd
  obtain ⟨xs, h2, hd⟩ := bind_some hd
  cases hd
  rw [List.length_cons, h _ xs h2]
def tup (as : Env → Option (List D)) : Env → Option D := fun ρ => (as ρ).bind fun ds => some (.tuple ds)
def lst (as : Env → Option (List D)) : Env → Option D := fun ρ => (as ρ).bind fun ds => some (.list ds)
def tupE (as : Env → Option (List D × Env)) : Env → Option (D × Env) := fun ρ => (as ρ).bind fun ds => some (.tuple ds.1, ds.2)
def lstE (as : Env → Option (List D × Env)) : Env → Option (D × Env) := fun ρ => (as ρ).bind fun ds => some (.list ds.1, ds.2)
theorem small_line {n : Nat} (h : n ≤ 1000) : n ≤ sizeLine := Nat.le_trans h (by decide)
theorem p_tup {x1} (ha : PA X es (tPs X.K .dat O as)) (hl : LenA as n) (hn : n ≤ 1000 := by decide) : PE X (.Tuple es x1 pos) (tP X.K .dat O (tup as)) := PE.imp (pe_tupF ha) fun σ H Q ⟨fc, ρ, Hd, z, S, hf, q⟩ => by
  unfold tup at hf
  obtain ⟨ds, h1, hf⟩ := bind_some hf
  cases hf
  refine ⟨fc, ρ, Hd, ds, S, h1, fun vs Hd1 H1 g1 r1 => ?_⟩
  have hz : vs.length ≤ sizeLine := by rw [Rps.length r1, hl _ _ h1]; exact small_line hn
  exact ⟨hz, fun p o hp ho => q _ _ _ (g1.trans (Gr.dat g1.s hp)) (.tup (TU.new ho) (Rps.mono (ex_upd (Evl.fresh_back g1.s hp)) r1) hz)⟩
theorem p_lst (ha : PA X es (tPs X.K .dat O as)) (hl : LenA as n) (hn : n ≤ 1000 := by decide) : PE X (.List es pos) (tP X.K .fre O (lst as)) := PE.imp (pe_lst ha) fun σ H Q ⟨fc, ρ, Hd, z, S, hf, q⟩ => by
  unfold lst at hf
  obtain ⟨ds, h1, hf⟩ := bind_some hf
  cases hf
  refine ⟨fc, ρ, Hd, ds, S, h1, fun vs Hd1 H1 g1 r1 => ?_⟩
  have hz : vs.length ≤ sizeLine := by rw [Rps.length r1, hl _ _ h1]; exact small_line hn
  exact ⟨hz, fun p hp => q _ Hd1 _ (g1.trans (Gr.own g1.s hp)) ⟨p, rfl, Evl.fresh_back g1.h hp, Evl.fresh_back g1.s hp, .lst upd_same r1 hz⟩⟩
theorem p_tupE {x1} (ha : PA X es (tEs X.K O ase)) (hl : LenE ase n) (hn : n ≤ 1000 := by decide) : PE X (.Tuple es x1 pos) (tE X.K O (tupE ase)) := PE.imp (pe_tupF ha) fun σ H Q ⟨fc, ρ, Hd, z, ρ', S, hf, q⟩ => by
  unfold tupE at hf
  obtain ⟨ds, h1, hf⟩ := bind_some hf
  cases hf
  refine ⟨fc, ρ, Hd, ds.1, ds.2, S, h1, fun vs Hd1 H1 S1 e1 r1 => ?_⟩
  have hz : vs.length ≤ sizeLine := by rw [Rps.length r1, hl _ _ h1]; exact small_line hn
  exact ⟨hz, fun p o hp ho => q _ _ _ (S1.grow (Gr.dat S1.sub hp)) (e1.trans (Gr.dat S1.sub hp).d) (.tup (TU.new ho) (Rps.mono (Gr.dat S1.sub hp).d r1) hz)⟩
theorem p_lstE (ha : PA X es (tEs X.K O ase)) (hl : LenE ase n) (hn : n ≤ 1000 := by decide) : PE X (.List es pos) (tE X.K O (lstE ase)) := PE.imp (pe_lst ha) fun σ H Q ⟨fc, ρ, Hd, z, ρ', S, hf, q⟩ => by
  unfold lstE at hf
  obtain ⟨ds, h1, hf⟩ := bind_some hf
  cases hf
  refine ⟨fc, ρ, Hd, ds.1, ds.2, S, h1, fun vs Hd1 H1 S1 e1 r1 => ?_⟩
  have hz : vs.length ≤ sizeLine := by rw [Rps.length r1, hl _ _ h1]; exact small_line hn
  have g := fun {p : Addr} (hp : H1 p = none) => Gr.dat (o := .lst vs) S1.sub hp
  exact ⟨hz, fun p hp => q _ _ _ (S1.grow (g hp)) (e1.trans (g hp).d) (.lst (.of upd_same) (Rps.mono (g hp).d r1) hz)⟩
/-- {} -/
def dnil : Env → Option D := fun _ => some (.dict [])
theorem p_dnil : PE X (.Dict [] [] pos) (tP X.K .fre O dnil) := PE.imp pe_dnewK fun σ H Q ⟨fc, ρ, Hd, z, S, hf, q⟩ => by
  cases hf
  exact fun p hp => q _ Hd _ (Gr.own S.sub hp) ⟨p, rfl, hp, Evl.fresh_back S.sub hp, .dK (ds := []) upd_same .nil⟩

/-! ### subscripts, slices -/
theorem p_ix {r : R2} {k2 : D → D → Option D} (hr : IxR X r) (hk : Op2 X.K r k2 m) (ha : PE X a (tP X.K .bor O f)) (hb : PE X b (tP X.K .bor O g)) (hs : PlainIx b := by exact fun _ _ => rfl) : PE X (.Subscript a b pos) (tP X.K m O (op2 k2 f g)) :=
  PE.imp (pe_ix hr ha hb hs) (t_op2 hk (fun _ _ _ h => h) fun _ _ _ h => h)
theorem p_ixE {r : R2} {k2 : D → D → Option D} (hr : IxR X r) (hk : Op2 X.K r k2 .dat) (ha : PE X a (tE X.K O fe)) (hb : PE X b (tE X.K O ge)) (hs : PlainIx b := by exact fun _ _ => rfl) : PE X (.Subscript a b pos) (tE X.K O (op2E k2 fe ge)) :=
  PE.imp (pe_ix hr ha hb hs) (t_op2E hk (fun _ _ _ h => h) fun _ _ _ h => h)
def asI : D → Option Int
  | .int i => some i
  | _ => none
def noB : Env → Option (Option Int) := fun _ => some none
def toB (f : Env → Option D) : Env → Option (Option Int) := fun ρ => (f ρ).bind fun d => (asI d).map some
def tPO (K : PySem.W.Frag) (O : List Nat) (f : Env → Option (Option Int)) : TO := fun σ H Q =>
  ∃ fc ρ Hd o, SR K fc O ρ Hd σ H ∧ f ρ = some o ∧ ∀ Hd' H', Gr Hd H Hd' H' → Q o H'
theorem PO.imp {eo : Option Expr} {t t' : TO} (h : PO X eo t) (w : ∀ σ H Q, t' σ H Q → t σ H Q) : PO X eo t' := ⟨fun pins s σ H Q I q => h.run pins s σ H Q I (w σ H Q q)⟩
theorem p_noB : PO X none (tPO X.K O noB) := PO.imp po_none fun σ H Q ⟨fc, ρ, Hd, o, S, hf, q⟩ => by
  cases hf
  exact q Hd H (Gr.refl S.sub)
theorem p_toB (ha : PE X a (tP X.K .bor O f)) : PO X (some a) (tPO X.K O (toB f)) := PO.imp (po_some ha) fun σ H Q ⟨fc, ρ, Hd, o, S, hf, q⟩ => by
  unfold toB at hf
  obtain ⟨d, h1, hf⟩ := bind_some hf
  refine ⟨fc, ρ, Hd, d, S, h1, fun v Hd1 H1 g1 r1 => ?_⟩
  cases d with
  | int i =>
    cases hf
    cases r1
    exact ⟨i, rfl, q Hd1 H1 g1⟩
  | _ => cases hf
def slcD (d : D) (lo hi : Option Int) : Option D := match d with
  | .list ds => some (.list (cutD ds lo hi))
  | .tuple ds => some (.tuple (cutD ds lo hi))
  | .str z => some (.str (cutS z lo hi))
  | _ => none
def slc (f : Env → Option D) (lo hi : Env → Option (Option Int)) : Env → Option D := fun ρ => (f ρ).bind fun d => (lo ρ).bind fun l => (hi ρ).bind fun u => slcD d l u
def slL (f : Env → Option D) (lo hi : Env → Option (Option Int)) : Env → Option D := fun ρ => (f ρ).bind fun d => (lo ρ).bind fun l => (hi ρ).bind fun u => match d with
  | .list ds => some (.list (cutD ds l u))
  | _ => none
theorem cut_rps {K : PySem.W.Frag} {Hd : Hp} {vs : List V} {ds : List D} (r : Rps K Hd vs ds) (lo hi : Option Int) : Rps K Hd (cutV vs lo hi) (cutD ds lo hi) := by
  unfold cutV cutD
  rw [r.length]
  exact (r.drop _).take _
def rSl2 (K : PySem.W.Frag) : V → Option Int → Option Int → Hp → VK → Prop := fun x lo hi H Q => rSlL K x lo hi H Q ∨ rSlF K x lo hi H Q ∨ rSlS x lo hi H Q
theorem sl_2 : SlR X (rSl2 X.K) := SlR.or sl_list (SlR.or sl_tupF sl_str)
theorem cut_whole {α : Type} (xs : List α) (lo hi : Option Int) (h : HT.sIx xs.length 0 lo = 0 ∧ HT.sIx xs.length xs.length hi = xs.length) : (xs.drop (HT.sIx xs.length 0 lo)).take (HT.sIx xs.length xs.length hi - HT.sIx xs.length 0 lo) = xs := by
  rw [h.1, h.2, List.drop_zero, Nat.sub_zero, List.take_length]
theorem p_slc {lo hi : Option Expr} {p2 : Pos} {fl fh : Env → Option (Option Int)} (ha : PE X a (tP X.K .bor O f)) (hl : PO X lo (tPO X.K O fl)) (hh : PO X hi (tPO X.K O fh)) : PE X (.Subscript a (.Slice lo hi none p2) pos) (tP X.K .dat O (slc f fl fh)) :=
  PE.imp (pe_slice sl_2 ha hl hh) fun σ H Q ⟨fc, ρ, Hd, z, S, hf, q⟩ => by
    unfold slc at hf
    obtain ⟨d, h1, hf⟩ := bind_some hf
    obtain ⟨l, h2, hf⟩ := bind_some hf
    obtain ⟨u, h3, hf⟩ := bind_some hf
    refine ⟨fc, ρ, Hd, d, S, h1, fun v Hd1 H1 g1 r1 => ⟨fc, ρ, Hd1, l, S.grow g1, h2, fun Hd2 H2 g2 => ⟨fc, ρ, Hd2, u, (S.grow g1).grow g2, h3, fun Hd3 H3 g3 => ?_⟩⟩⟩
    have r3 : Tp X.K Hd3 H3 v d := Tp.mono (g2.trans g3).d (g2.trans g3).h r1
    have g := (g1.trans g2).trans g3
    unfold slcD at hf
    split at hf
    · cases hf
      cases r3 with
      | @lst a xs _ k1 k2 hz =>
        refine .inl ⟨a, xs, rfl, .inl k1, fun p hp => q _ _ _ (g.trans (Gr.dat g.s hp)) (.lst (.of upd_same) (Rps.mono (ex_upd (Evl.fresh_back g.s hp)) (cut_rps k2 l u)) ?_)⟩
        exact Nat.le_trans (cutV_length _ _ _) hz
    · cases hf
      cases r3 with
      | @tup a xs _ k1 k2 hz =>
        refine .inr (.inl ⟨a, xs, rfl, (tu_mono g3.s k1).sq, fun w => ?_, fun _ p o hp ho => ?_⟩)
        · have e1 : cutD _ l u = _ := cut_whole _ l u (by rw [← k2.length]; exact w)
          exact q _ _ _ g (by rw [e1]; exact .tup k1 k2 hz)
        · exact q _ _ _ (g.trans (Gr.dat g.s hp)) (.tup (TU.new ho) (Rps.mono (ex_upd (Evl.fresh_back g.s hp)) (cut_rps k2 l u)) (Nat.le_trans (cutV_length _ _ _) hz))
    · cases hf
      cases r3 with
      | str _ hz => exact .inr (.inr ⟨_, rfl, hz, q _ _ _ g (.str _ (Nat.le_trans (cutS_length _ l u) hz))⟩)
    · cases hf
theorem p_slL {lo hi : Option Expr} {p2 : Pos} {fl fh : Env → Option (Option Int)} (ha : PE X a (tP X.K .bor O f)) (hl : PO X lo (tPO X.K O fl)) (hh : PO X hi (tPO X.K O fh)) : PE X (.Subscript a (.Slice lo hi none p2) pos) (tP X.K .fre O (slL f fl fh)) :=
  PE.imp (pe_slice sl_list ha hl hh) fun σ H Q ⟨fc, ρ, Hd, z, S, hf, q⟩ => by
    unfold slL at hf
    obtain ⟨d, h1, hf⟩ := bind_some hf
    obtain ⟨l, h2, hf⟩ := bind_some hf
    obtain ⟨u, h3, hf⟩ := bind_some hf
    refine ⟨fc, ρ, Hd, d, S, h1, fun v Hd1 H1 g1 r1 => ⟨fc, ρ, Hd1, l, S.grow g1, h2, fun Hd2 H2 g2 => ⟨fc, ρ, Hd2, u, (S.grow g1).grow g2, h3, fun Hd3 H3 g3 => ?_⟩⟩⟩
    have r3 : Tp X.K Hd3 H3 v d := Tp.mono (g2.trans g3).d (g2.trans g3).h r1
    have g := (g1.trans g2).trans g3
    split at hf
    · cases hf
      cases r3 with
      | @lst a xs _ k1 k2 hz =>
        exact ⟨a, xs, rfl, .inl k1, fun p hp => q _ _ _ (g.trans (Gr.own g.s hp)) ⟨p, rfl, Evl.fresh_back g.h hp, Evl.fresh_back g.s hp, .lst upd_same (cut_rps k2 l u) (Nat.le_trans (cutV_length _ _ _) hz)⟩⟩
    · cases hf
def op1P (g : D → Option D) (f : Env → Option D) : Env → Option D := fun ρ => (f ρ).bind g
theorem p_neg (ha : PE X a (tP X.K .bor O f)) : PE X (.UnaryOp .USub a pos) (tP X.K .dat O (op1 negD f)) := PE.imp (pe_un un_neg ha) fun σ H Q ⟨fc, ρ, Hd, z, S, hf, q⟩ => by
  unfold op1 at hf
  obtain ⟨d, h1, hf⟩ := bind_some hf
  exact ⟨fc, ρ, Hd, d, S, h1, fun v Hd1 H1 g1 r1 => ok_neg Hd1 H1 v d z Q g1.s r1 hf fun v2 Hd' H' g2 r2 => q v2 Hd' H' (g1.trans g2) r2⟩

/-! ### tests -/
variable {ft gt : Env → Option Bool} {fte gte : Env → Option (Bool × Env)}
def tru (f : Env → Option D) : Env → Option Bool := fun ρ => (f ρ).bind asB
def truE (f : Env → Option (D × Env)) : Env → Option (Bool × Env) := fun ρ => (f ρ).bind fun x => (asB x.1).bind fun b => some (b, x.2)
def andT (f g : Env → Option Bool) : Env → Option Bool := fun ρ => (f ρ).bind fun b => if b then g ρ else some false
def orT (f g : Env → Option Bool) : Env → Option Bool := fun ρ => (f ρ).bind fun b => if b then some true else g ρ
def notT (f : Env → Option Bool) : Env → Option Bool := fun ρ => (f ρ).bind fun b => some (!b)
def andTE (f g : Env → Option (Bool × Env)) : Env → Option (Bool × Env) := fun ρ => (f ρ).bind fun x => if x.1 then g x.2 else some (false, x.2)
def orTE (f g : Env → Option (Bool × Env)) : Env → Option (Bool × Env) := fun ρ => (f ρ).bind fun x => if x.1 then some (true, x.2) else g x.2
def notTE (f : Env → Option (Bool × Env)) : Env → Option (Bool × Env) := fun ρ => (f ρ).bind fun x => some (!x.1, x.2)
theorem bl_of {K : PySem.W.Frag} {Hd H : Hp} {v : V} {d : D} {b : Bool} (t : Tp K Hd H v d) (h : asB d = some b) : v = .bl b := by
  cases d with
  | bool c =>
    cases h
    cases t
    rfl
  | _ => cases h
theorem p_cmpT {op : CmpOp} {r : R2} {k2 : D → D → Option D} (ho : OpR X (compareOp op) r) (hk : Op2 X.K r k2 .dat) (ha : PE X a (tP X.K .bor O f)) (hb : PE X b (tP X.K .bor O g)) (hm : behindInMarks op b = false) : PT X (.Compare a [op] [b] pos) (tPT X.K O (tru (op2 k2 f g))) :=
  PT.imp (pt_cmpR ho ha hb hm) fun σ H Q ⟨fc, ρ, Hd, bb, S, hf, q⟩ => by
    unfold tru at hf
    obtain ⟨d, h1, hf⟩ := bind_some hf
    exact t_op2 hk (fun _ _ _ h => h) (fun _ _ _ h => h) σ H _ ⟨fc, ρ, Hd, d, S, h1, fun v Hd' H' g1 r1 => ⟨bb, bl_of (Rp.tp g1.s r1) hf, q Hd' H' g1⟩⟩
theorem p_cmpTE {op : CmpOp} {r : R2} {k2 : D → D → Option D} (ho : OpR X (compareOp op) r) (hk : Op2 X.K r k2 .dat) (ha : PE X a (tE X.K O fe)) (hb : PE X b (tE X.K O ge)) (hm : behindInMarks op b = false) : PT X (.Compare a [op] [b] pos) (tET X.K O (truE (op2E k2 fe ge))) :=
  PT.imp (pt_cmpR ho ha hb hm) fun σ H Q ⟨fc, ρ, Hd, bb, ρ', S, hf, q⟩ => by
    unfold truE at hf
    obtain ⟨d, h1, hf⟩ := bind_some hf
    obtain ⟨b2, h2, hf⟩ := bind_some hf
    cases hf
    exact t_op2E hk (fun _ _ _ h => h) (fun _ _ _ h => h) σ H _ ⟨fc, ρ, Hd, d.1, d.2, S, h1, fun v Hd' H' S1 e1 r1 => ⟨_, bl_of (Rp.tp S1.sub r1) h2, q Hd' H' S1 e1⟩⟩
theorem p_valT (ha : PE X e (tP X.K .bor O f)) (he : ∀ whole, isTrue e X.env whole = (do let v ← whole; standAt e.pos; holding [v] (truthy v)) := by intro _; rfl) : PT X e (tPT X.K O (tru f)) :=
  PT.imp (pt_val ha he) fun σ H Q ⟨fc, ρ, Hd, bb, S, hf, q⟩ => by
    unfold tru at hf
    obtain ⟨d, h1, hf⟩ := bind_some hf
    exact ⟨fc, ρ, Hd, d, S, h1, fun v Hd' H' g1 r1 => ⟨bb, bl_of r1 hf, q Hd' H' g1⟩⟩
theorem p_valTE (ha : PE X e (tE X.K O fe)) (he : ∀ whole, isTrue e X.env whole = (do let v ← whole; standAt e.pos; holding [v] (truthy v)) := by intro _; rfl) : PT X e (tET X.K O (truE fe)) :=
  PT.imp (pt_val ha he) fun σ H Q ⟨fc, ρ, Hd, bb, ρ', S, hf, q⟩ => by
    unfold truE at hf
    obtain ⟨d, h1, hf⟩ := bind_some hf
    obtain ⟨b2, h2, hf⟩ := bind_some hf
    cases hf
    exact ⟨fc, ρ, Hd, d.1, d.2, S, h1, fun v Hd' H' S1 e1 r1 => ⟨_, bl_of (Rp.tp S1.sub r1) h2, q Hd' H' S1 e1⟩⟩
theorem p_upT (ha : PT X e (tPT X.K O ft)) : PT X e (tET X.K O (up ft)) := PT.imp ha fun σ H Q ⟨fc, ρ, Hd, bb, ρ', S, hf, q⟩ => by
  unfold up at hf
  obtain ⟨d, h1, hf⟩ := bind_some hf
  cases hf
  exact ⟨fc, ρ, Hd, _, S, h1, fun Hd' H' g1 => q Hd' H' (S.grow g1) g1.d⟩
theorem p_upW (ha : PW X e (tPT X.K O ft)) : PW X e (tET X.K O (up ft)) := PW.imp ha fun σ H Q ⟨fc, ρ, Hd, bb, ρ', S, hf, q⟩ => by
  unfold up at hf
  obtain ⟨d, h1, hf⟩ := bind_some hf
  cases hf
  exact ⟨fc, ρ, Hd, _, S, h1, fun Hd' H' g1 => q Hd' H' (S.grow g1) g1.d⟩
theorem p_not (ha : PT X a (tPT X.K O ft)) : PT X (.UnaryOp .Not a pos) (tPT X.K O (notT ft)) := PT.imp (pt_not ha) fun σ H Q ⟨fc, ρ, Hd, bb, S, hf, q⟩ => by
  unfold notT at hf
  obtain ⟨d, h1, hf⟩ := bind_some hf
  cases hf
  exact ⟨fc, ρ, Hd, d, S, h1, fun Hd' H' g1 => q Hd' H' g1⟩
theorem p_notE (ha : PT X a (tET X.K O fte)) : PT X (.UnaryOp .Not a pos) (tET X.K O (notTE fte)) := PT.imp (pt_not ha) fun σ H Q ⟨fc, ρ, Hd, bb, ρ', S, hf, q⟩ => by
  unfold notTE at hf
  obtain ⟨d, h1, hf⟩ := bind_some hf
  cases hf
  exact ⟨fc, ρ, Hd, d.1, d.2, S, h1, fun Hd' H' S1 e1 => q Hd' H' S1 e1⟩
theorem p_and1 (ha : PT X a (tPT X.K O ft)) : PW X (.BoolOp .And [a] pos) (tPT X.K O ft) := pw_and1 ha
theorem p_or1 (ha : PT X a (tPT X.K O ft)) : PW X (.BoolOp .Or [a] pos) (tPT X.K O ft) := pw_or1 ha
theorem p_and (ha : PT X a (tPT X.K O ft)) (hb : PW X (.BoolOp .And (b :: rest) pos) (tPT X.K O gt)) : PW X (.BoolOp .And (a :: b :: rest) pos) (tPT X.K O (andT ft gt)) := PW.imp (pw_and ha hb) fun σ H Q ⟨fc, ρ, Hd, bb, S, hf, q⟩ => by
  unfold andT at hf
  obtain ⟨d, h1, hf⟩ := bind_some hf
  refine ⟨fc, ρ, Hd, d, S, h1, fun Hd' H' g1 => ?_⟩
  cases d with
  | true => exact ⟨fc, ρ, Hd', bb, S.grow g1, hf, fun Hd2 H2 g2 => q Hd2 H2 (g1.trans g2)⟩
  | false =>
    cases hf
    exact q Hd' H' g1
theorem p_or (ha : PT X a (tPT X.K O ft)) (hb : PW X (.BoolOp .Or (b :: rest) pos) (tPT X.K O gt)) : PW X (.BoolOp .Or (a :: b :: rest) pos) (tPT X.K O (orT ft gt)) := PW.imp (pw_or ha hb) fun σ H Q ⟨fc, ρ, Hd, bb, S, hf, q⟩ => by
  unfold orT at hf
  obtain ⟨d, h1, hf⟩ := bind_some hf
  refine ⟨fc, ρ, Hd, d, S, h1, fun Hd' H' g1 => ?_⟩
  cases d with
  | false => exact ⟨fc, ρ, Hd', bb, S.grow g1, hf, fun Hd2 H2 g2 => q Hd2 H2 (g1.trans g2)⟩
  | true =>
    cases hf
    exact q Hd' H' g1
theorem p_and1E (ha : PT X a (tET X.K O fte)) : PW X (.BoolOp .And [a] pos) (tET X.K O fte) := pw_and1 ha
theorem p_or1E (ha : PT X a (tET X.K O fte)) : PW X (.BoolOp .Or [a] pos) (tET X.K O fte) := pw_or1 ha
theorem p_andE (ha : PT X a (tET X.K O fte)) (hb : PW X (.BoolOp .And (b :: rest) pos) (tET X.K O gte)) : PW X (.BoolOp .And (a :: b :: rest) pos) (tET X.K O (andTE fte gte)) := PW.imp (pw_and ha hb) fun σ H Q ⟨fc, ρ, Hd, bb, ρ', S, hf, q⟩ => by
  unfold andTE at hf
  obtain ⟨d, h1, hf⟩ := bind_some hf
  refine ⟨fc, ρ, Hd, d.1, d.2, S, h1, fun Hd' H' S1 e1 => ?_⟩
  obtain ⟨d1, d2⟩ := d
  cases d1 with
  | true => exact ⟨fc, d2, Hd', bb, ρ', S1, hf, fun Hd2 H2 S2 e2 => q Hd2 H2 S2 (e1.trans e2)⟩
  | false =>
    cases hf
    exact q Hd' H' S1 e1
theorem p_orE (ha : PT X a (tET X.K O fte)) (hb : PW X (.BoolOp .Or (b :: rest) pos) (tET X.K O gte)) : PW X (.BoolOp .Or (a :: b :: rest) pos) (tET X.K O (orTE fte gte)) := PW.imp (pw_or ha hb) fun σ H Q ⟨fc, ρ, Hd, bb, ρ', S, hf, q⟩ => by
  unfold orTE at hf
  obtain ⟨d, h1, hf⟩ := bind_some hf
  refine ⟨fc, ρ, Hd, d.1, d.2, S, h1, fun Hd' H' S1 e1 => ?_⟩
  obtain ⟨d1, d2⟩ := d
  cases d1 with
  | false => exact ⟨fc, d2, Hd', bb, ρ', S1, hf, fun Hd2 H2 S2 e2 => q Hd2 H2 S2 (e1.trans e2)⟩
  | true =>
    cases hf
    exact q Hd' H' S1 e1
/-! values -/
def andV (f g : Env → Option D) : Env → Option D := fun ρ => (f ρ).bind fun d => (asB d).bind fun b => if b then g ρ else some (.bool false)
def orV (f g : Env → Option D) : Env → Option D := fun ρ => (f ρ).bind fun d => (asB d).bind fun b => if b then some (.bool true) else g ρ
theorem p_one {op} (h : PE X a (tP X.K m O f)) : PE X (.BoolOp op [a] pos) (tP X.K m O f) := pe_one h
theorem p_andV (ha : PE X a (tP X.K .bor O f)) (hb : PE X (.BoolOp .And (b :: rest) pos) (tP X.K .dat O g)) : PE X (.BoolOp .And (a :: b :: rest) pos) (tP X.K .dat O (andV f g)) := PE.imp (pe_and ha hb) fun σ H Q ⟨fc, ρ, Hd, z, S, hf, q⟩ => by
  unfold andV at hf
  obtain ⟨d, h1, hf⟩ := bind_some hf
  obtain ⟨bb, h2, hf⟩ := bind_some hf
  refine ⟨fc, ρ, Hd, d, S, h1, fun v Hd' H' g1 r1 => ⟨bb, bl_of r1 h2, ?_⟩⟩
  cases bb with
  | true => exact ⟨fc, ρ, Hd', z, S.grow g1, hf, fun v2 Hd2 H2 g2 r2 => q v2 Hd2 H2 (g1.trans g2) r2⟩
  | false =>
    cases hf
    exact q _ Hd' H' g1 (.bl false)
theorem p_orV (ha : PE X a (tP X.K .bor O f)) (hb : PE X (.BoolOp .Or (b :: rest) pos) (tP X.K .dat O g)) : PE X (.BoolOp .Or (a :: b :: rest) pos) (tP X.K .dat O (orV f g)) := PE.imp (pe_or ha hb) fun σ H Q ⟨fc, ρ, Hd, z, S, hf, q⟩ => by
  unfold orV at hf
  obtain ⟨d, h1, hf⟩ := bind_some hf
  obtain ⟨bb, h2, hf⟩ := bind_some hf
  refine ⟨fc, ρ, Hd, d, S, h1, fun v Hd' H' g1 r1 => ⟨bb, bl_of r1 h2, ?_⟩⟩
  cases bb with
  | false => exact ⟨fc, ρ, Hd', z, S.grow g1, hf, fun v2 Hd2 H2 g2 r2 => q v2 Hd2 H2 (g1.trans g2) r2⟩
  | true =>
    cases hf
    exact q _ Hd' H' g1 (.bl true)
theorem p_notV (ha : PE X a (tP X.K .bor O f)) : PE X (.UnaryOp .Not a pos) (tP X.K .dat O (op1 notD f)) := PE.imp (pe_not ha) fun σ H Q ⟨fc, ρ, Hd, z, S, hf, q⟩ => by
  unfold op1 at hf
  obtain ⟨d, h1, hf⟩ := bind_some hf
  cases d with
  | bool bb =>
    cases hf
    exact ⟨fc, ρ, Hd, _, S, h1, fun v Hd' H' g1 r1 => ⟨bb, bl_of r1 rfl, q _ Hd' H' g1 (.bl _)⟩⟩
  | _ => cases hf
def ifE (t : Env → Option Bool) (f g : Env → Option D) : Env → Option D := fun ρ => (t ρ).bind fun b => if b then f ρ else g ρ
theorem p_if (ht : PT X c (tPT X.K O ft)) (ha : PE X a (tP X.K m O f)) (hb : PE X b (tP X.K m O g)) : PE X (.IfExp c a b pos) (tP X.K m O (ifE ft f g)) := PE.imp (pe_ifExp ht ha hb) fun σ H Q ⟨fc, ρ, Hd, z, S, hf, q⟩ => by
  unfold ifE at hf
  obtain ⟨d, h1, hf⟩ := bind_some hf
  refine ⟨fc, ρ, Hd, d, S, h1, fun Hd' H' g1 => ?_⟩
  cases d with
  | true => exact ⟨fc, ρ, Hd', z, S.grow g1, hf, fun v2 Hd2 H2 g2 r2 => q v2 Hd2 H2 (g1.trans g2) (Res.lift g1 r2)⟩
  | false => exact ⟨fc, ρ, Hd', z, S.grow g1, hf, fun v2 Hd2 H2 g2 r2 => q v2 Hd2 H2 (g1.trans g2) (Res.lift g1 r2)⟩
def ifEE (t : Env → Option (Bool × Env)) (f g : Env → Option (D × Env)) : Env → Option (D × Env) := fun ρ => (t ρ).bind fun x => if x.1 then f x.2 else g x.2
theorem p_ifE (ht : PT X c (tET X.K O fte)) (ha : PE X a (tE X.K O fe)) (hb : PE X b (tE X.K O ge)) : PE X (.IfExp c a b pos) (tE X.K O (ifEE fte fe ge)) := PE.imp (pe_ifExp ht ha hb) fun σ H Q ⟨fc, ρ, Hd, z, ρ', S, hf, q⟩ => by
  unfold ifEE at hf
  obtain ⟨d, h1, hf⟩ := bind_some hf
  refine ⟨fc, ρ, Hd, d.1, d.2, S, h1, fun Hd' H' S1 e1 => ?_⟩
  obtain ⟨d1, d2⟩ := d
  cases d1 with
  | true => exact ⟨fc, d2, Hd', z, ρ', S1, hf, fun v2 Hd2 H2 S2 e2 r2 => q v2 Hd2 H2 S2 (e1.trans e2) r2⟩
  | false => exact ⟨fc, d2, Hd', z, ρ', S1, hf, fun v2 Hd2 H2 S2 e2 r2 => q v2 Hd2 H2 S2 (e1.trans e2) r2⟩
end
end PL

set_option Elab.async false
set_option linter.all false
set_option maxRecDepth 100000
namespace PL
open PySem PySem.Spec PyProof.Rows L2 PySem.W

/-! ### what is walked -/
/-- J walks the items ds, as long as the data stand (and, where per is false, all that stood) -/
def ItD (K : PySem.W.Frag) (per : Bool) (J : It) (Hd H : Hp) (ds : List D) : Prop := ∀ (i : Nat) (Hd1 H1 : Hp), Ex Hd Hd1 → Ex Hd1 H1 → (per = false → Ex H H1) →
  (∀ d, ds[i]? = some d → J.go i H1 ∧ ∀ x H2, J.yld i H1 x H2 → ∃ Hd2, Gr Hd1 H1 Hd2 H2 ∧ Rp K Hd2 x d) ∧ (i = ds.length → J.stop i H1)
def tI (K : PySem.W.Frag) (per : Bool) (O : List Nat) (f : Env → Option (List D)) : TI := fun σ H R =>
  ∃ fc ρ Hd ds, SR K fc O ρ Hd σ H ∧ f ρ = some ds ∧ ∀ J Hd' H', Gr Hd H Hd' H' → ItD K per J Hd' H' ds → ds.length ≤ sizeLine → R J H'
def tIE (K : PySem.W.Frag) (O : List Nat) (f : Env → Option (List D × Env)) : TI := fun σ H R =>
  ∃ fc ρ Hd ds ρ', SR K fc O ρ Hd σ H ∧ f ρ = some (ds, ρ') ∧ ∀ J Hd' H', SR K fc O ρ' Hd' σ H' → Ex Hd Hd' → ItD K true J Hd' H' ds → ds.length ≤ sizeLine → R J H'
def itemsD : D → Option (List D)
  | .list ds => some ds
  | .tuple ds => some ds
  | .str z => some (z.cps.toList.map fun c => .str ⟨#[c]⟩)
  | _ => none
def seqI (f : Env → Option D) : Env → Option (List D) := fun ρ => (f ρ).bind itemsD
def seqIE (f : Env → Option (D × Env)) : Env → Option (List D × Env) := fun ρ => (f ρ).bind fun x => (itemsD x.1).bind fun ds => some (ds, x.2)
section
variable {X : Cx} {K : PySem.W.Frag} {tg e a b c : Expr} {es : List Expr} {m : Md} {O : List Nat} {f g : Env → Option D} {fe ge : Env → Option (D × Env)} {as : Env → Option (List D)} {ase : Env → Option (List D × Env)} {pos p : Pos} {per : Bool} {J : It} {Hd H : Hp}
theorem it_list {l : Addr} {xs : List V} {ds : List D} (h1 : Rd H l (.lst xs)) (h2 : Rps K Hd xs ds) : ItD K false (Itl K l) Hd H ds := fun i Hd1 H1 a s ex => by
  have q : SqL K H1 l xs := .inl (rd_mono (ex rfl) h1)
  refine ⟨fun d hd => ?_, fun e => ⟨xs, q, by rw [h2.length]; omega⟩⟩
  obtain ⟨v, hv, rv⟩ := h2.get hd
  refine ⟨⟨xs, v, q, hv⟩, fun x H2 ⟨e, y⟩ => ⟨Hd1, by rw [e]; exact Gr.refl s, ?_⟩⟩
  have z := y xs q
  rw [hv] at z
  cases z
  exact rv.mono a
theorem it_listP {l : Addr} {xs : List V} {ds : List D} (h1 : Rd Hd l (.lst xs)) (h2 : Rps K Hd xs ds) : ItD K true (Itl K l) Hd H ds := fun i Hd1 H1 a s ex => by
  have q : SqL K H1 l xs := .inl (rd_mono (a.trans s) h1)
  refine ⟨fun d hd => ?_, fun e => ⟨xs, q, by rw [h2.length]; omega⟩⟩
  obtain ⟨v, hv, rv⟩ := h2.get hd
  refine ⟨⟨xs, v, q, hv⟩, fun x H2 ⟨e, y⟩ => ⟨Hd1, by rw [e]; exact Gr.refl s, ?_⟩⟩
  have z := y xs q
  rw [hv] at z
  cases z
  exact rv.mono a
theorem it_tup {l : Addr} {xs : List V} {ds : List D} (h1 : TU Hd l xs) (h2 : Rps K Hd xs ds) : ItD K per (Itt K l) Hd H ds := fun i Hd1 H1 a s ex => by
  have q : SqT K H1 l xs := (tu_mono s (tu_mono a h1)).sq
  refine ⟨fun d hd => ?_, fun e => ⟨xs, q, by rw [h2.length]; omega⟩⟩
  obtain ⟨v, hv, rv⟩ := h2.get hd
  refine ⟨⟨xs, v, q, hv⟩, fun x H2 ⟨e, y⟩ => ⟨Hd1, by rw [e]; exact Gr.refl s, ?_⟩⟩
  have z := y xs q
  rw [hv] at z
  cases z
  exact rv.mono a
theorem it_str (z : Str) : ItD K per (Its z) Hd H (z.cps.toList.map fun c => .str ⟨#[c]⟩) := fun i Hd1 H1 a s ex => by
  refine ⟨fun d hd => ?_, fun e => ?_⟩
  · rw [List.getElem?_map] at hd
    cases q : z.cps.toList[i]? with
    | none => rw [q] at hd; cases hd
    | some c =>
      rw [q] at hd
      cases hd
      have q2 : z.cps[i]? = some c := by rw [← Array.getElem?_toList]; exact q
      refine ⟨?_, fun x H2 ⟨e, c', h1, h2⟩ => ⟨Hd1, by rw [e]; exact Gr.refl s, ?_⟩⟩
      · obtain ⟨hlt, _⟩ := Array.getElem?_eq_some_iff.mp q2
        exact hlt
      · rw [q2] at h1
        cases h1
        rw [h2]
        exact .str _ (by show 1 ≤ sizeLine; decide)
  · show z.cps.size ≤ i
    rw [e, List.length_map, Array.length_toList]
    exact Nat.le_refl _
theorem PI.mk' {wi : TI} (h : ∀ (pins : List (Addr × Obj)) (s : Shared) (σ : L2.St) (H : Hp) (R : It → Hp → Prop), L2.Inv X pins σ H s → wi σ H R → wpAny (model X.prog X.w) X.A (eval e X.env) (fun v s1 => wpAny (model X.prog X.w) X.A (pyIter v) (PIE X pins σ tg R) X.xe s1) X.xe s) : PI X tg e wi := ⟨h⟩
theorem i_seq (h : PE X e (tP X.K .bor O f)) : PI X tg e (tI X.K false O (seqI f)) := PI.mk' fun pins s σ H R I ⟨fc, ρ, Hd, ds, S, hf, q⟩ => by
  unfold seqI at hf
  obtain ⟨d, h1, hf⟩ := bind_some hf
  cases d with
  | list l =>
    cases hf
    exact (pi_list h).run pins s σ H R I ⟨fc, ρ, Hd, _, S, h1, fun v Hd' H' g r => by
      cases r with
      | @lst a xs _ k1 k2 hz => exact ⟨a, rfl, ⟨xs, .inl k1⟩, q _ Hd' H' g (it_list k1 k2) (by rw [← k2.length]; exact hz)⟩⟩
  | tuple l =>
    cases hf
    exact (pi_tup h).run pins s σ H R I ⟨fc, ρ, Hd, _, S, h1, fun v Hd' H' g r => by
      cases r with
      | @tup a xs _ k1 k2 hz => exact ⟨a, rfl, ⟨xs, (tu_mono g.s k1).sq⟩, q _ Hd' H' g (it_tup k1 k2) (by rw [← k2.length]; exact hz)⟩⟩
  | str z =>
    cases hf
    exact (pi_str h).run pins s σ H R I ⟨fc, ρ, Hd, _, S, h1, fun v Hd' H' g r => by
      cases r with
      | str _ hz => exact ⟨z, rfl, q _ Hd' H' g (it_str z) (by rw [List.length_map, Array.length_toList]; exact hz)⟩⟩
  | _ => cases hf
theorem i_seqP (h : PE X e (tP X.K .dat O f)) : PI X tg e (tI X.K true O (seqI f)) := PI.mk' fun pins s σ H R I ⟨fc, ρ, Hd, ds, S, hf, q⟩ => by
  unfold seqI at hf
  obtain ⟨d, h1, hf⟩ := bind_some hf
  cases d with
  | list l =>
    cases hf
    exact (pi_list h).run pins s σ H R I ⟨fc, ρ, Hd, _, S, h1, fun v Hd' H' g r => by
      cases r with
      | @lst a xs _ k1 k2 hz => exact ⟨a, rfl, ⟨xs, .inl (rd_mono g.s k1)⟩, q _ Hd' H' g (it_listP k1 k2) (by rw [← k2.length]; exact hz)⟩⟩
  | tuple l =>
    cases hf
    exact (pi_tup h).run pins s σ H R I ⟨fc, ρ, Hd, _, S, h1, fun v Hd' H' g r => by
      cases r with
      | @tup a xs _ k1 k2 hz => exact ⟨a, rfl, ⟨xs, (tu_mono g.s k1).sq⟩, q _ Hd' H' g (it_tup k1 k2) (by rw [← k2.length]; exact hz)⟩⟩
  | str z =>
    cases hf
    exact (pi_str h).run pins s σ H R I ⟨fc, ρ, Hd, _, S, h1, fun v Hd' H' g r => by
      cases r with
      | str _ hz => exact ⟨z, rfl, q _ Hd' H' g (it_str z) (by rw [List.length_map, Array.length_toList]; exact hz)⟩⟩
  | _ => cases hf
theorem i_seqE (h : PE X e (tE X.K O fe)) : PI X tg e (tIE X.K O (seqIE fe)) := PI.mk' fun pins s σ H R I ⟨fc, ρ, Hd, ds, ρ', S, hf, q⟩ => by
  unfold seqIE at hf
  obtain ⟨d, h1, hf⟩ := bind_some hf
  obtain ⟨l0, h2, hf⟩ := bind_some hf
  cases hf
  obtain ⟨d1, d2⟩ := d
  cases d1 with
  | list l =>
    cases h2
    exact (pi_list h).run pins s σ H R I ⟨fc, ρ, Hd, _, _, S, h1, fun v Hd' H' S1 e1 r => by
      cases r with
      | @lst a xs _ k1 k2 hz => exact ⟨a, rfl, ⟨xs, .inl (rd_mono S1.sub k1)⟩, q _ Hd' H' S1 e1 (it_listP k1 k2) (by rw [← k2.length]; exact hz)⟩⟩
  | tuple l =>
    cases h2
    exact (pi_tup h).run pins s σ H R I ⟨fc, ρ, Hd, _, _, S, h1, fun v Hd' H' S1 e1 r => by
      cases r with
      | @tup a xs _ k1 k2 hz => exact ⟨a, rfl, ⟨xs, (tu_mono S1.sub k1).sq⟩, q _ Hd' H' S1 e1 (it_tup k1 k2) (by rw [← k2.length]; exact hz)⟩⟩
  | str z =>
    cases h2
    exact (pi_str h).run pins s σ H R I ⟨fc, ρ, Hd, _, _, S, h1, fun v Hd' H' S1 e1 r => by
      cases r with
      | str _ hz => exact ⟨z, rfl, q _ Hd' H' S1 e1 (it_str z) (by rw [List.length_map, Array.length_toList]; exact hz)⟩⟩
  | _ => cases h2
/-! range -/
def rngL (lo : Int) (n : Nat) : List D := (List.range n).map fun (i : Nat) => PyData.int (lo + (i : Int))
def rngD : List D → Option (List D)
  | [.int n] => if -16777216 ≤ n ∧ n ≤ 16777216 then some (rngL 0 n.toNat) else none
  | [.int lo, .int hi] => if -16777216 ≤ lo ∧ lo ≤ 16777216 ∧ -16777216 ≤ hi ∧ hi ≤ 16777216 ∧ (hi - lo).toNat ≤ 16777216 then some (rngL lo (hi - lo).toNat) else none
  | _ => none
def rng (as : Env → Option (List D)) : Env → Option (List D) := fun ρ => (as ρ).bind rngD
def rngE (as : Env → Option (List D × Env)) : Env → Option (List D × Env) := fun ρ => (as ρ).bind fun x => (rngD x.1).bind fun l => some (l, x.2)
theorem it_rng (lo : Int) (n : Nat) : ItD K per (Itr lo n) Hd H (rngL lo n) := fun i Hd1 H1 a s ex => by
  unfold rngL
  refine ⟨fun d hd => ?_, fun e => ?_⟩
  · rw [List.getElem?_map] at hd
    by_cases hi : i < n
    · rw [List.getElem?_range hi] at hd
      cases hd
      exact ⟨hi, fun x H2 ⟨e, y⟩ => ⟨Hd1, by rw [e]; exact Gr.refl s, by rw [y]; exact .int _⟩⟩
    · rw [List.getElem?_eq_none (by rw [List.length_range]; omega)] at hd
      cases hd
  · rw [List.length_map, List.length_range] at e
    show n ≤ i
    omega
theorem rng_len (lo : Int) (n : Nat) : (rngL lo n).length = n := by unfold rngL; rw [List.length_map, List.length_range]
theorem rngD1 {ds l : List D} (h : rngD ds = some l) (hl : ds.length = 1) : ∃ n : Int, ds = [.int n] ∧ -16777216 ≤ n ∧ n ≤ 16777216 ∧ l = rngL 0 n.toNat := by
  unfold rngD at h
  split at h
  · split at h
    · cases h
      exact ⟨_, rfl, by omega, by omega, rfl⟩
    · cases h
  · simp at hl
  · cases h
theorem rngD2 {ds l : List D} (h : rngD ds = some l) (hl : ds.length = 2) : ∃ lo hi : Int, ds = [.int lo, .int hi] ∧ (-16777216 ≤ lo ∧ lo ≤ 16777216 ∧ -16777216 ≤ hi ∧ hi ≤ 16777216 ∧ (hi - lo).toNat ≤ 16777216) ∧ l = rngL lo (hi - lo).toNat := by
  unfold rngD at h
  split at h
  · simp at hl
  · split at h
    · cases h
      exact ⟨_, _, rfl, by assumption, rfl⟩
    · cases h
  · cases h
theorem i_rng1 (hg : Gl X "range") (hm : X.mg "range" = none) (ha : PA X [a] (tPs X.K .bor O as)) (hl : LenA as 1) (hs : starEach [a] X.env = [(false, eval a X.env)] := by rfl) : PI X tg (.Call (.Name "range" p) [a] [] pos) (tI X.K per O (rng as)) :=
  PI.mk' fun pins s σ H R I ⟨fc, ρ, Hd, l, S, hf, q⟩ => by
    unfold rng at hf
    obtain ⟨ds, h1, hf⟩ := bind_some hf
    obtain ⟨n, rfl, b1, b2, rfl⟩ := rngD1 hf (hl _ _ h1)
    exact (pi_range1 hg hm ha hs).run pins s σ H R I ⟨fc, ρ, Hd, _, S, h1, fun vs Hd' H' g r => by
      obtain ⟨x, rfl, t⟩ := paired1 r
      cases t
      exact ⟨_, rfl, by omega, by omega, q _ Hd' H' g (it_rng 0 _) (by rw [rng_len, sizeLine_eq]; omega)⟩⟩
theorem i_rng2 (hg : Gl X "range") (hm : X.mg "range" = none) (ha : PA X [a, b] (tPs X.K .bor O as)) (hl : LenA as 2) (hs : starEach [a, b] X.env = [(false, eval a X.env), (false, eval b X.env)] := by rfl) (hs2 : starEach [b] X.env = [(false, eval b X.env)] := by rfl) : PI X tg (.Call (.Name "range" p) [a, b] [] pos) (tI X.K per O (rng as)) :=
  PI.mk' fun pins s σ H R I ⟨fc, ρ, Hd, l, S, hf, q⟩ => by
    unfold rng at hf
    obtain ⟨ds, h1, hf⟩ := bind_some hf
    obtain ⟨lo, hi, rfl, bs, rfl⟩ := rngD2 hf (hl _ _ h1)
    exact (pi_range2 hg hm ha hs hs2).run pins s σ H R I ⟨fc, ρ, Hd, _, S, h1, fun vs Hd' H' g r => by
      obtain ⟨x, y, rfl, t1, t2⟩ := paired2 r
      cases t1
      cases t2
      exact ⟨_, _, rfl, ⟨by omega, by omega, by omega, by omega⟩, q _ Hd' H' g (it_rng _ _) (by rw [rng_len, sizeLine_eq]; omega)⟩⟩
theorem i_rng1E (hg : Gl X "range") (hm : X.mg "range" = none) (ha : PA X [a] (tEs X.K O ase)) (hl : LenE ase 1) (hs : starEach [a] X.env = [(false, eval a X.env)] := by rfl) : PI X tg (.Call (.Name "range" p) [a] [] pos) (tIE X.K O (rngE ase)) :=
  PI.mk' fun pins s σ H R I ⟨fc, ρ, Hd, l, ρ', S, hf, q⟩ => by
    unfold rngE at hf
    obtain ⟨ds, h1, hf⟩ := bind_some hf
    obtain ⟨l2, h3, hf⟩ := bind_some hf
    cases hf
    have hlen := hl _ _ h1
    obtain ⟨ds1, ds2⟩ := ds
    obtain ⟨n, e0, b1, b2, rfl⟩ := rngD1 h3 hlen
    have e0' : ds1 = [.int n] := e0
    subst e0'
    exact (pi_range1 hg hm ha hs).run pins s σ H R I ⟨fc, ρ, Hd, _, _, S, h1, fun vs Hd' H' S1 e1 r => by
      obtain ⟨x, rfl, t⟩ := paired1 (rps_paired S1.sub r)
      cases t
      exact ⟨_, rfl, by omega, by omega, q _ Hd' H' S1 e1 (it_rng 0 _) (by rw [rng_len, sizeLine_eq]; omega)⟩⟩
theorem i_rng2E (hg : Gl X "range") (hm : X.mg "range" = none) (ha : PA X [a, b] (tEs X.K O ase)) (hl : LenE ase 2) (hs : starEach [a, b] X.env = [(false, eval a X.env), (false, eval b X.env)] := by rfl) (hs2 : starEach [b] X.env = [(false, eval b X.env)] := by rfl) : PI X tg (.Call (.Name "range" p) [a, b] [] pos) (tIE X.K O (rngE ase)) :=
  PI.mk' fun pins s σ H R I ⟨fc, ρ, Hd, l, ρ', S, hf, q⟩ => by
    unfold rngE at hf
    obtain ⟨ds, h1, hf⟩ := bind_some hf
    obtain ⟨l2, h3, hf⟩ := bind_some hf
    cases hf
    have hlen := hl _ _ h1
    obtain ⟨ds1, ds2⟩ := ds
    obtain ⟨lo, hi, e0, bs, rfl⟩ := rngD2 h3 hlen
    have e0' : ds1 = [.int lo, .int hi] := e0
    subst e0'
    exact (pi_range2 hg hm ha hs hs2).run pins s σ H R I ⟨fc, ρ, Hd, _, _, S, h1, fun vs Hd' H' S1 e1 r => by
      obtain ⟨x, y, rfl, t1, t2⟩ := paired2 (rps_paired S1.sub r)
      cases t1
      cases t2
      exact ⟨_, _, rfl, ⟨by omega, by omega, by omega, by omega⟩, q _ Hd' H' S1 e1 (it_rng _ _) (by rw [rng_len, sizeLine_eq]; omega)⟩⟩
theorem i_upE {g : Env → Option (List D)} (h : PI X tg e (tI X.K true O g)) : PI X tg e (tIE X.K O (up g)) := PI.mk' fun pins s σ H R I ⟨fc, ρ, Hd, ds, ρ', S, hf, q⟩ => by
  unfold up at hf
  obtain ⟨d, h1, hf⟩ := bind_some hf
  cases hf
  exact h.run pins s σ H R I ⟨fc, ρ, Hd, _, S, h1, fun J Hd' H' g hi hz => q J Hd' H' (S.grow g) g.d hi hz⟩
end
end PL

set_option Elab.async false
set_option linter.all false
set_option maxRecDepth 100000
namespace PL
open PySem PySem.Spec PyProof.Rows L2 PySem.W

section
variable {K : PySem.W.Frag} {fc : FC} {O : List Nat} {ρ ρ' ρ1 : Env} {σ σ' : L2.St} {H H' Hd Hd' : Hp} {v x : V} {d : D} {j : Nat}
/-! ### slots stored, forgotten -/
theorem SR.set (S : SR K fc O ρ Hd σ H) (hj : j ∉ O) (r : Rp K Hd v d) : SR K fc O (ρ.set j (some d)) Hd (σ.set j (some v)) H := by
  refine ⟨S.sub, S.dat, S.frm, S.new, fun p hp => ?_, fun i e he => ?_, fun i l a e1 e2 hi hl h1 h2 k1 k2 => ?_, by rw [List.length_set, List.length_set]; exact S.len⟩
  · obtain ⟨p1, p2, d', p3⟩ := S.io p hp
    have ne : j ≠ p.1 := fun z => hj (z ▸ p1)
    exact ⟨p1, by rw [List.getElem?_set_ne ne]; exact p2, d', by rw [List.getElem?_set_ne ne]; exact p3⟩
  · by_cases hij : j = i
    · subst hij
      have hlt : j < ρ.length := by
        obtain ⟨hlt, _⟩ := List.getElem?_eq_some_iff.mp he
        rw [List.length_set] at hlt
        exact hlt
      rw [List.getElem?_set_self hlt] at he
      cases he
      exact ⟨v, by rw [List.getElem?_set_self (by rw [← S.len]; exact hlt)], fun _ => r, fun z => absurd z hj⟩
    · rw [List.getElem?_set_ne hij] at he ⊢
      exact S.val i e he
  · have n1 : j ≠ i := fun z => hj (z ▸ hi)
    have n2 : j ≠ l := fun z => hj (z ▸ hl)
    rw [List.getElem?_set_ne n1] at h1 k1
    rw [List.getElem?_set_ne n2] at h2 k2
    exact S.ap i l a e1 e2 hi hl h1 h2 k1 k2
theorem SR.unset (S : SR K fc O ρ Hd σ H) (hj : j ∉ O) : SR K fc O (ρ.set j none) Hd (σ.set j none) H := by
  refine ⟨S.sub, S.dat, S.frm, S.new, fun p hp => ?_, fun i e he => ?_, fun i l a e1 e2 hi hl h1 h2 k1 k2 => ?_, by rw [List.length_set, List.length_set]; exact S.len⟩
  · obtain ⟨p1, p2, d', p3⟩ := S.io p hp
    have ne : j ≠ p.1 := fun z => hj (z ▸ p1)
    exact ⟨p1, by rw [List.getElem?_set_ne ne]; exact p2, d', by rw [List.getElem?_set_ne ne]; exact p3⟩
  · by_cases hij : j = i
    · subst hij
      have hlt : j < ρ.length := by
        obtain ⟨hlt, _⟩ := List.getElem?_eq_some_iff.mp he
        rw [List.length_set] at hlt
        exact hlt
      rw [List.getElem?_set_self hlt] at he
      cases he
    · rw [List.getElem?_set_ne hij] at he ⊢
      exact S.val i e he
  · have n1 : j ≠ i := fun z => hj (z ▸ hi)
    have n2 : j ≠ l := fun z => hj (z ▸ hl)
    rw [List.getElem?_set_ne n1] at h1 k1
    rw [List.getElem?_set_ne n2] at h2 k2
    exact S.ap i l a e1 e2 hi hl h1 h2 k1 k2
def wipeE (ρ : Env) : List Nat → Env
  | [] => ρ
  | v :: vs => (wipeE ρ vs).set v none
theorem SR.wipe (S : SR K fc O ρ Hd σ H) : ∀ vs : List Nat, (∀ j ∈ vs, j ∉ O) → SR K fc O (wipeE ρ vs) Hd (L2.wipe σ vs) H
  | [], _ => S
  | j :: vs, h => (SR.wipe S vs fun i hi => h i (.tail _ hi)).unset (h j List.mem_cons_self)
/-- the same state, told from here -/
theorem SR.rebase (S : SR K fc O ρ Hd σ H) : ∃ fc', fc'.H0 = H ∧ fc'.D0 = Hd ∧ SR K fc' O ρ Hd σ H ∧ (∀ i b, (i, b) ∈ fc'.io → i ∈ O ∧ (∃ d, ρ[i]? = some (some d)) ∧ σ[i]? = some (some (.ref b))) ∧ ∀ ρ' Hd' H', SR K fc' O ρ' Hd' σ H' → SR K fc O ρ' Hd' σ H' := by
  let io : List (Nat × Addr) := O.filterMap fun i => match ρ[i]?, σ[i]? with
    | some (some _), some (some (V.ref a)) => some (i, a)
    | _, _ => none
  have mem : ∀ i a, (i, a) ∈ io ↔ i ∈ O ∧ (∃ d, ρ[i]? = some (some d)) ∧ σ[i]? = some (some (.ref a)) := fun i a => by
    show (i, a) ∈ O.filterMap _ ↔ _
    rw [List.mem_filterMap]
    constructor
    · rintro ⟨k, hk, e⟩
      split at e
      · rename_i d1 a1 h1 h2
        cases e
        exact ⟨hk, ⟨_, h1⟩, h2⟩
      · cases e
    · rintro ⟨hi, ⟨d, h1⟩, h2⟩
      exact ⟨i, hi, by rw [h1, h2]⟩
  refine ⟨⟨H, Hd, io⟩, rfl, rfl, ⟨S.sub, Evl.Ex.refl _, fun b o e _ => e, fun p o e n => (by
    have n2 : Hd p = none := n
    rw [n2] at e
    cases e), fun p hp => ?_, fun i d e => ?_, S.ap, S.len⟩, fun i b h => ?_, fun ρ' Hd' H' T => ?_⟩
  · obtain ⟨h1, h2, h3⟩ := (mem p.1 p.2).mp hp
    exact ⟨h1, h3, h2⟩
  · obtain ⟨v, h1, h2, h3⟩ := S.val i d e
    refine ⟨v, h1, h2, fun y => ?_⟩
    obtain ⟨a, rfl, n, w, _⟩ := h3 y
    exact ⟨a, rfl, n, w, .inr ((mem i a).mpr ⟨y, ⟨d, e⟩, h1⟩)⟩
  · exact (mem i b).mp h
  · refine ⟨T.sub, S.dat.trans T.dat, fun b o e n => T.frm b o (S.frm b o e n) fun i hi => ?_, fun p o e n => ?_, fun p hp => ?_, fun i d e => ?_, T.ap, T.len⟩
    · obtain ⟨h1, ⟨d, h2⟩, h3⟩ := (mem i b).mp hi
      obtain ⟨v, k1, _, k3⟩ := S.val i d h2
      obtain ⟨a, rfl, _, _, f⟩ := k3 h1
      rw [h3] at k1
      cases k1
      rcases f with f | f
      · rw [f] at e; cases e
      · exact n i f
    · cases q : Hd p with
      | some u => exact S.new p u q n
      | none => exact S.fresh (T.new p o e q)
    · obtain ⟨p1, p2, dd, p3⟩ := S.io p hp
      obtain ⟨_, _, q⟩ := T.io (p.1, p.2) ((mem p.1 p.2).mpr ⟨p1, ⟨dd, p3⟩, p2⟩)
      exact ⟨p1, p2, q⟩
    · obtain ⟨v, h1, h2, h3⟩ := T.val i d e
      refine ⟨v, h1, h2, fun y => ?_⟩
      obtain ⟨a, rfl, n, w, f⟩ := h3 y
      refine ⟨a, rfl, n, w, ?_⟩
      rcases f with f | f
      · exact .inl (S.fresh f)
      · obtain ⟨g1, ⟨d0, g2⟩, g3⟩ := (mem i a).mp f
        obtain ⟨v0, k1, _, k3⟩ := S.val i d0 g2
        obtain ⟨a0, rfl, _, _, f0⟩ := k3 g1
        rw [g3] at k1
        cases k1
        exact f0

/-! ### targets -/
def setAll : List Nat → List D → Env → Env
  | j :: js, d :: ds, ρ => setAll js ds (ρ.set j (some d))
  | _, _, ρ => ρ
def bN (j : Nat) : D → Env → Option Env := fun d ρ => some (ρ.set j (some d))
def bT (js : List Nat) : D → Env → Option Env := fun d ρ => match d with
  | .tuple ds => if ds.length = js.length then some (setAll js ds ρ) else none
  | .dict [(.none, .tuple ds)] => if ds.length = js.length then some (setAll js ds ρ) else none
  | _ => none
def BndOk (K : PySem.W.Frag) (O : List Nat) (g : TG) (bnd : D → Env → Option Env) (vs : List Nat) : Prop := ∀ (fc : FC) (ρ : Env) (Hd : Hp) (σ : L2.St) (H : Hp) (x : V) (d : D) (ρ1 : Env) (Q : L2.St → Hp → Prop), SR K fc O ρ Hd σ H → Rp K Hd x d → bnd d ρ = some ρ1 →
  (∀ σ1, SR K fc O ρ1 Hd σ1 H → L2.wipe σ1 vs = L2.wipe σ vs → Q σ1 H) → g x σ H Q
theorem wipe_set {σ : L2.St} {j : Nat} {o : Option V} : ∀ {vs : List Nat}, j ∈ vs → L2.wipe (σ.set j o) vs = L2.wipe σ vs
  | i :: vs, h => by
    show (L2.wipe (σ.set j o) vs).set i none = (L2.wipe σ vs).set i none
    by_cases hv : j ∈ vs
    · rw [wipe_set hv]
    · have e : j = i := (List.mem_cons.mp h).elim id fun z => absurd z hv
      subst e
      have out : ∀ vs : List Nat, j ∉ vs → L2.wipe (σ.set j o) vs = (L2.wipe σ vs).set j o := fun vs => by
        induction vs with
        | nil => intro _; rfl
        | cons k vs ih =>
          intro hn
          have hk : j ≠ k := fun z => hn (z ▸ List.mem_cons_self)
          show (L2.wipe (σ.set j o) vs).set k none = ((L2.wipe σ vs).set k none).set j o
          rw [ih fun z => hn (.tail _ z), List.set_comm _ _ hk]
      rw [out vs hv, List.set_set]
theorem bnd_name (hO : j ∉ O) {vs : List Nat} (hv : j ∈ vs) : BndOk K O (gName j) (bN j) vs := fun fc ρ Hd σ H x d ρ1 Q S r h q => by
  cases h
  exact q _ (S.set hO r) (wipe_set hv)
inductive GNames : List Nat → TGs → Prop
  | nil : GNames [] gNil
  | cons {j : Nat} {js : List Nat} {t : TGs} : GNames js t → GNames (j :: js) (gCons (gName j) t)
theorem bnd_all {vs : List Nat} : ∀ {js : List Nat} {t : TGs}, GNames js t → (∀ j ∈ js, j ∉ O ∧ j ∈ vs) → ∀ (fc : FC) (ρ : Env) (Hd : Hp) (σ : L2.St) (H : Hp) (xs : List V) (ds : List D) (Q : L2.St → Hp → Prop), SR K fc O ρ Hd σ H → Rps K Hd xs ds → ds.length = js.length →
    (∀ σ1, SR K fc O (setAll js ds ρ) Hd σ1 H → L2.wipe σ1 vs = L2.wipe σ vs → Q σ1 H) → t xs σ H Q
  | [], _, .nil, _, fc, ρ, Hd, σ, H, xs, ds, Q, S, r, hl, q => by
    cases ds with
    | nil =>
      cases r
      exact ⟨rfl, q σ S rfl⟩
    | cons d ds => simp at hl
  | j :: js, _, .cons t, hv, fc, ρ, Hd, σ, H, xs, ds, Q, S, r, hl, q => by
    cases ds with
    | nil => simp at hl
    | cons d ds =>
      cases r with
      | @cons x xs _ _ r1 r2 =>
        have h1 := hv j List.mem_cons_self
        refine ⟨x, xs, rfl, bnd_all t (fun i hi => hv i (.tail _ hi)) fc (ρ.set j (some d)) Hd (σ.set j (some x)) H xs ds Q (S.set h1.1 r1) r2 (Nat.succ.inj hl) fun σ1 S1 e => q σ1 S1 (e.trans (wipe_set h1.2))⟩
theorem bnd_tup {js : List Nat} {t : TGs} {vs : List Nat} {n : Nat} (ht : GNames js t) (hn : js.length = n) (hv : ∀ j ∈ js, j ∉ O ∧ j ∈ vs) : BndOk K O (gTup K n t) (bT js) vs := fun fc ρ Hd σ H x d ρ1 Q S r h q => by
  unfold bT at h
  split at h
  · rename_i ds
    split at h
    · cases h
      cases r with
      | @tup a xs _ k1 k2 hz => exact ⟨a, xs, rfl, (tu_mono S.sub k1).sq, by rw [k2.length]; omega, bnd_all ht hv fc ρ Hd σ H xs ds Q S k2 (by assumption) q⟩
    · cases h
  · rename_i ds
    split at h
    · cases h
      obtain ⟨a, xs, rfl, k1, k2, hz⟩ := kt_of (r.tp S.sub)
      exact ⟨a, xs, rfl, .of (S.sub _ _ k1), by rw [k2.length]; omega, bnd_all ht hv fc ρ Hd σ H xs ds Q S k2 (by assumption) q⟩
    · cases h
  · cases h
end
end PL

set_option Elab.async false
set_option linter.all false
set_option maxRecDepth 100000
namespace PL
open PySem PySem.Spec PyProof.Rows L2 PySem.W

/-! ### list comprehensions -/
def yesT : Env → Option Bool := fun _ => some true
def yesTE : Env → Option (Bool × Env) := fun ρ => some (true, ρ)
def lcF (bnd : D → Env → Option Env) (tt : Env → Option Bool) (te : Env → Option D) (ρ : Env) : List D → Option (List D)
  | [] => some []
  | d :: ds => (bnd d ρ).bind fun ρ1 => (tt ρ1).bind fun b => if b then (te ρ1).bind fun y => (lcF bnd tt te ρ ds).bind fun ys => some (y :: ys) else lcF bnd tt te ρ ds
def lc (it : Env → Option (List D)) (vs : List Nat) (bnd : D → Env → Option Env) (tt : Env → Option Bool) (te : Env → Option D) : Env → Option D := fun ρ => (it ρ).bind fun ds => (lcF bnd tt te (wipeE ρ vs) ds).bind fun ys => some (.list ys)
def lcFE (bnd : D → Env → Option Env) (tt : Env → Option (Bool × Env)) (te : Env → Option (D × Env)) (vs : List Nat) : List D → Env → Option (List D × Env)
  | [], ρ => some ([], ρ)
  | d :: ds, ρ => (bnd d ρ).bind fun ρ1 => (tt ρ1).bind fun x => if x.1 then (te x.2).bind fun y => (lcFE bnd tt te vs ds (wipeE y.2 vs)).bind fun z => some (y.1 :: z.1, z.2) else lcFE bnd tt te vs ds (wipeE x.2 vs)
def unwipe (vs : List Nat) : Nat → Env → Env → Env
  | k, a :: ρ, b :: ρ' => (if vs.contains k then a else b) :: unwipe vs (k + 1) ρ ρ'
  | _, _, _ => []
def lcE (it : Env → Option (List D × Env)) (vs : List Nat) (bnd : D → Env → Option Env) (tt : Env → Option (Bool × Env)) (te : Env → Option (D × Env)) : Env → Option (D × Env) := fun ρ => (it ρ).bind fun x => (lcFE bnd tt te vs x.1 (wipeE x.2 vs)).bind fun z => some (.list z.1, unwipe vs 0 x.2 z.2)
section
variable {K : PySem.W.Frag} {X : Cx} {O vs : List Nat} {per : Bool} {g : TG} {bnd : D → Env → Option Env} {ft : Env → Option Bool} {f : Env → Option D} {it : Env → Option (List D)} {fte : Env → Option (Bool × Env)} {fe : Env → Option (D × Env)} {ite : Env → Option (List D × Env)}
theorem PTs.imp {ifs : List Expr} {t t' : TT} (h : PTs X ifs t) (w : ∀ σ H Q, t' σ H Q → t σ H Q) : PTs X ifs t' := ⟨fun pins s σ H Q I q => h.run pins s σ H Q I (w σ H Q q)⟩
theorem pts0 : PTs X [] (tPT X.K O yesT) := PTs.imp pts_nil fun σ H Q ⟨fc, ρ, Hd, b, S, hf, q⟩ => by
  cases hf
  exact q Hd H (Gr.refl S.sub)
theorem pts0E : PTs X [] (tET X.K O yesTE) := PTs.imp pts_nil fun σ H Q ⟨fc, ρ, Hd, b, ρ', S, hf, q⟩ => by
  cases hf
  exact q Hd H S (Evl.Ex.refl _)
theorem lcF_len : ∀ {ρ : Env} {ds ys : List D}, lcF bnd ft f ρ ds = some ys → ys.length ≤ ds.length
  | ρ, [], ys, h => by cases h; exact Nat.le_refl _
  | ρ, d :: ds, ys, h => by
    unfold lcF at h
    obtain ⟨ρ1, _, h⟩ := bind_some h
    obtain ⟨b, _, h⟩ := bind_some h
    cases b with
    | true =>
      obtain ⟨y, _, h⟩ := bind_some h
      obtain ⟨zs, h2, h⟩ := bind_some h
      cases h
      have := lcF_len h2
      rw [List.length_cons, List.length_cons]
      omega
    | false =>
      have := lcF_len (show lcF bnd ft f ρ ds = some ys from h)
      rw [List.length_cons]
      omega
/-- a turn's end: what has been made, what is to be made -/
structure LcW (K : PySem.W.Frag) (bnd : D → Env → Option Env) (ft : Env → Option Bool) (f : Env → Option D) (ρw : Env) (Hd1 H1 : Hp) (D0 : Addr) (ds ys : List D) (i : Nat) (H : Hp) : Prop where
  ex : ∃ Hd, Gr Hd1 H1 Hd H ∧ Hd D0 = none ∧ ∃ av ad rest, H D0 = some (.lst av) ∧ Rps K Hd av ad ∧ av.length ≤ i ∧ lcF bnd ft f ρw (ds.drop i) = some rest ∧ ad ++ rest = ys
theorem t_lc (hv : ∀ j ∈ vs, j ∉ O) (hg : BndOk K O g bnd vs) : ∀ σ H Q, tP K .fre O (lc it vs bnd ft f) σ H Q → tLc (tI K per O it) g (tPT K O ft) (tP K .dat O f) vs σ H Q := fun σ H Q ⟨fc, ρ, Hd, z, S, hf, q⟩ => by
  unfold lc at hf
  obtain ⟨ds, h1, hf⟩ := bind_some hf
  obtain ⟨ys, h2, hf⟩ := bind_some hf
  cases hf
  refine ⟨fc, ρ, Hd, ds, S, h1, fun J Hd1 H1 g1 hJ hz => fun D0 hD => ?_⟩
  have nD : Hd1 D0 = none := Evl.fresh_back g1.s hD
  have gD : Gr Hd1 H1 Hd1 (upd H1 D0 (.lst [])) := Gr.own g1.s hD
  have S1 := S.grow g1
  refine ⟨fun i m H => m = ds.length - i ∧ i ≤ ds.length ∧ LcW K bnd ft f (wipeE ρ vs) Hd1 H1 D0 ds ys i H, ⟨ds.length, by simp, Nat.zero_le _, ⟨⟨Hd1, gD, nD, [], [], ys, upd_same, .nil, Nat.le_refl _, by rw [List.drop_zero]; exact h2, rfl⟩⟩⟩, ?_⟩
  rintro i m H2 ⟨rfl, hi, ⟨⟨Hd2, g2, n2, av, ad, rest, hav, rav, hlen, hrest, hys⟩⟩⟩
  have it := hJ i Hd2 H2 g2.d g2.s fun _ => g2.h
  by_cases hlt : i < ds.length
  · have hd : ds[i]? = some ds[i] := List.getElem?_eq_getElem hlt
    obtain ⟨go, step⟩ := it.1 _ hd
    refine .inr ⟨go, fun H' => i + 1 ≤ ds.length ∧ LcW K bnd ft f (wipeE ρ vs) Hd1 H1 D0 ds ys (i + 1) H', fun H' ⟨a1, a2⟩ => ⟨ds.length - (i + 1), by omega, rfl, a1, a2⟩, fun x H3 hy => ?_⟩
    obtain ⟨Hd3, g3, rx⟩ := step x H3 hy
    rw [List.drop_eq_getElem_cons hlt] at hrest
    unfold lcF at hrest
    obtain ⟨ρ1, hb, hrest⟩ := bind_some hrest
    obtain ⟨b, ht, hrest⟩ := bind_some hrest
    have S3 : SR K fc O (wipeE ρ vs) Hd3 (L2.wipe σ vs) H3 := ((S1.grow g2).grow g3).wipe vs hv
    refine hg fc _ Hd3 _ H3 x ds[i] ρ1 _ S3 rx hb fun σ4 S4 ew => ⟨by rw [ew]; exact wipe_wipe, ?_⟩
    refine ⟨fc, ρ1, Hd3, b, S4, ht, fun Hd5 H5 g5 => ?_⟩
    have e5 : Ex H2 H5 := g3.h.trans g5.h
    have n5 : Hd5 D0 = none := by
      have z := (g3.trans g5).n D0
      cases e : Hd5 D0 with
      | none => rfl
      | some o => rw [z o e n2] at hav; cases hav
    cases b with
    | true =>
      obtain ⟨y, hy2, hrest⟩ := bind_some hrest
      obtain ⟨ws, hw, hrest⟩ := bind_some hrest
      cases hrest
      refine ⟨fc, ρ1, Hd5, y, S4.grow g5, hy2, fun v Hd6 H6 g6 rv => ?_⟩
      have g26 := (g3.trans g5).trans g6
      have n6 : Hd6 D0 = none := by
        cases e : Hd6 D0 with
        | none => rfl
        | some o => rw [g26.n D0 o e n2] at hav; cases hav
      have h6 : H6 D0 = some (.lst av) := g26.h _ _ hav
      refine ⟨av, h6, Nat.lt_of_le_of_lt hlen (Nat.lt_of_lt_of_le hlt hz), hlt, ⟨Hd6, ?_, n6, av ++ [v], ad ++ [y], ws, upd_same, (rav.mono g26.d).append (Rps.one rv), by rw [List.length_append, List.length_singleton]; omega, hw, by rw [List.append_assoc]; exact hys⟩⟩
      have g16 := g2.trans g26
      refine ⟨g16.d, fun a o e => ?_, fun a o e => ?_, g16.n⟩
      · rw [upd_ne (ne_of_none e hD)]
        exact g16.h a o e
      · rw [upd_ne (ne_of_none e n6)]
        exact g16.s a o e
    | false =>
      have g26 := g3.trans g5
      exact ⟨hlt, ⟨Hd5, g2.trans g26, n5, av, ad, rest, g26.h _ _ hav, rav.mono g26.d, by omega, hrest, hys⟩⟩
  · have e : i = ds.length := by omega
    subst e
    rw [List.drop_length] at hrest
    cases hrest
    rw [List.append_nil] at hys
    subst hys
    exact .inl ⟨it.2 rfl, q _ Hd2 H2 (g1.trans g2) ⟨D0, rfl, Evl.fresh_back g1.h hD, n2, .lst hav rav (Nat.le_trans hlen hz)⟩⟩
where
  wipe_wipe {σ : L2.St} : ∀ {vs : List Nat}, L2.wipe (L2.wipe σ vs) vs = L2.wipe σ vs := fun {vs} => by
    have key : ∀ (ws : List Nat) (τ : L2.St), (∀ j ∈ ws, (τ[j]?).join = none) → L2.wipe τ ws = τ := by
      intro ws
      induction ws with
      | nil => intro τ _; rfl
      | cons j ws ih =>
        intro τ h
        show (L2.wipe τ ws).set j none = τ
        rw [ih τ fun k hk => h k (.tail _ hk)]
        apply List.ext_getElem?
        intro k
        by_cases hjk : j = k
        · subst hjk
          by_cases hl : j < τ.length
          · rw [List.getElem?_set_self hl]
            have z := h j List.mem_cons_self
            rw [List.getElem?_eq_getElem hl] at z ⊢
            have z2 : τ[j] = none := z
            rw [z2]
          · rw [List.getElem?_eq_none (by rw [List.length_set]; omega), List.getElem?_eq_none (by omega)]
        · rw [List.getElem?_set_ne hjk]
    refine key vs _ fun j hj => ?_
    cases e : (L2.wipe σ vs)[j]? with
    | none => rfl
    | some o =>
      cases o with
      | none => rfl
      | some v => exact absurd hj (wipe_some e).2
theorem lcFE_len : ∀ {ds ys : List D} {ρ ρ' : Env}, lcFE bnd fte fe vs ds ρ = some (ys, ρ') → ys.length ≤ ds.length
  | [], ys, ρ, ρ', h => by cases h; exact Nat.le_refl _
  | d :: ds, ys, ρ, ρ', h => by
    unfold lcFE at h
    obtain ⟨ρ1, _, h⟩ := bind_some h
    obtain ⟨b, _, h⟩ := bind_some h
    split at h
    · obtain ⟨y, _, h⟩ := bind_some h
      obtain ⟨zs, h2, h⟩ := bind_some h
      cases h
      have := lcFE_len (ys := zs.1) (ρ' := zs.2) h2
      rw [List.length_cons, List.length_cons]
      omega
    · have := lcFE_len h
      rw [List.length_cons]
      omega
theorem unwipe_get : ∀ {ρ ρ' : Env} (k i : Nat), ρ.length = ρ'.length → (unwipe vs k ρ ρ')[i]? = if vs.contains (k + i) then ρ[i]? else ρ'[i]?
  | [], [], k, i, _ => by simp [unwipe]
  | a :: ρ, b :: ρ', k, 0, _ => by
    show some (if vs.contains k then a else b) = _
    rw [Nat.add_zero]
    split <;> rfl
  | a :: ρ, b :: ρ', k, i + 1, h => by
    show (unwipe vs (k + 1) ρ ρ')[i]? = _
    rw [unwipe_get (k + 1) i (Nat.succ.inj h), show k + 1 + i = k + (i + 1) by omega]
    rfl
theorem unwipe_len : ∀ {ρ ρ' : Env} (k : Nat), ρ.length = ρ'.length → (unwipe vs k ρ ρ').length = ρ.length
  | [], [], _, _ => rfl
  | a :: ρ, b :: ρ', k, h => by
    show (unwipe vs (k + 1) ρ ρ').length + 1 = ρ.length + 1
    rw [unwipe_len (k + 1) (Nat.succ.inj h)]
theorem wipe_get {σ : L2.St} {i : Nat} : ∀ {ws : List Nat}, i ∉ ws → (L2.wipe σ ws)[i]? = σ[i]?
  | [], _ => rfl
  | w :: ws, h => by
    show ((L2.wipe σ ws).set w none)[i]? = _
    have n1 : w ≠ i := fun z => h (by rw [z]; exact List.mem_cons_self)
    rw [List.getElem?_set_ne n1, wipe_get fun z => h (.tail _ z)]
theorem SR.unwipe {fc : FC} {ρ ρ' : Env} {σ : L2.St} {Hd Hd' H H' : Hp} (S : SR K fc O ρ Hd σ H) (e : Ex Hd Hd') (hv : ∀ j ∈ vs, j ∉ O) (T : SR K fc O ρ' Hd' (L2.wipe σ vs) H') : SR K fc O (unwipe vs 0 ρ ρ') Hd' σ H' := by
  have hl : ρ.length = ρ'.length := by rw [S.len, T.len, wipe_length]
  have nc : ∀ {i : Nat}, i ∈ O → vs.contains i = false := fun {i} hi => by
    cases q : vs.contains i with
    | false => rfl
    | true => exact absurd hi (hv i (List.contains_iff_mem.mp q))
  have ni : ∀ {i : Nat}, i ∈ O → i ∉ vs := fun {i} hi z => hv i z hi
  have get : ∀ {i : Nat}, i ∈ O → (PL.unwipe vs 0 ρ ρ')[i]? = ρ'[i]? := fun {i} hi => by
    rw [unwipe_get 0 i hl, Nat.zero_add, nc hi, if_neg Bool.false_ne_true]
  refine ⟨T.sub, T.dat, T.frm, T.new, fun p hp => ?_, fun i d h => ?_, fun i j a d d' hi hj h1 h2 k1 k2 => ?_, by rw [unwipe_len 0 hl]; exact S.len⟩
  · obtain ⟨p1, p2, dd, p3⟩ := T.io p hp
    rw [wipe_get (ni p1)] at p2
    exact ⟨p1, p2, dd, by rw [get p1]; exact p3⟩
  · rw [unwipe_get 0 i hl, Nat.zero_add] at h
    by_cases hi : vs.contains i = true
    · rw [if_pos hi] at h
      obtain ⟨v, h1, h2, _⟩ := S.val i d h
      have hO : i ∉ O := hv i (List.contains_iff_mem.mp hi)
      exact ⟨v, h1, fun _ => (h2 hO).mono e, fun z => absurd z hO⟩
    · rw [if_neg hi] at h
      obtain ⟨v, h1, h2, h3⟩ := T.val i d h
      rw [wipe_get fun z => hi (List.contains_iff_mem.mpr z)] at h1
      exact ⟨v, h1, h2, h3⟩
  · rw [get hi] at h1
    rw [get hj] at h2
    exact T.ap i j a d d' hi hj h1 h2 (by rw [wipe_get (ni hi)]; exact k1) (by rw [wipe_get (ni hj)]; exact k2)
/-- an object that is neither data nor a slot's own changes -/
theorem SR.aside {fc : FC} {ρ : Env} {σ : L2.St} {Hd H : Hp} {D0 : Addr} {o : HO} (S : SR K fc O ρ Hd σ H) (fD : fc.H0 D0 = none) (nD : Hd D0 = none) (oD : ∀ i ∈ O, ∀ d, ρ[i]? = some (some d) → σ[i]? ≠ some (some (.ref D0))) : SR K fc O ρ Hd σ (upd H D0 o) := by
  refine ⟨fun a u e => ?_, S.dat, fun b u e n => ?_, S.new, S.io, fun i d e => ?_, S.ap, S.len⟩
  · rw [upd_ne (ne_of_none e nD)]
    exact S.sub a u e
  · rw [upd_ne (ne_of_none e fD)]
    exact S.frm b u e n
  · obtain ⟨v, h1, h2, h3⟩ := S.val i d e
    refine ⟨v, h1, h2, fun y => ?_⟩
    obtain ⟨a, rfl, n, w, f⟩ := h3 y
    have ne : a ≠ D0 := fun z => oD i y d e (by rw [← z]; exact h1)
    exact ⟨a, rfl, n, w.move (Evl.Ex.refl _) fun u hu => by rw [upd_ne ne]; exact hu, f⟩
structure LcV (K : PySem.W.Frag) (fc : FC) (O vs : List Nat) (σw : L2.St) (bnd : D → Env → Option Env) (ft : Env → Option (Bool × Env)) (f : Env → Option (D × Env)) (ρe : Env) (Hd1 : Hp) (D0 : Addr) (ds ys : List D) (i : Nat) (H : Hp) : Prop where
  ex : ∃ Hd ρ, SR K fc O ρ Hd σw H ∧ Ex Hd1 Hd ∧ Hd D0 = none ∧ (∀ i ∈ O, ∀ d, ρ[i]? = some (some d) → σw[i]? ≠ some (some (.ref D0))) ∧ ∃ av ad rest, H D0 = some (.lst av) ∧ Rps K Hd av ad ∧ av.length ≤ i ∧ lcFE bnd ft f vs (ds.drop i) ρ = some (rest, ρe) ∧ ad ++ rest = ys
theorem wipeE_get {ρ : Env} {i : Nat} {d : D} : ∀ {ws : List Nat}, (wipeE ρ ws)[i]? = some (some d) → ρ[i]? = some (some d)
  | [], h => h
  | w :: ws, h => by
    have h' : ((wipeE ρ ws).set w none)[i]? = some (some d) := h
    by_cases e : w = i
    · subst e
      by_cases hl : w < (wipeE ρ ws).length
      · rw [List.getElem?_set_self hl] at h'
        cases h'
      · rw [List.getElem?_eq_none (by rw [List.length_set]; omega)] at h'
        cases h'
    · rw [List.getElem?_set_ne e] at h'
      exact wipeE_get h'
theorem t_lcE (hv : ∀ j ∈ vs, j ∉ O) (hg : BndOk K O g bnd vs) : ∀ σ H Q, tE K O (lcE ite vs bnd fte fe) σ H Q → tLc (tIE K O ite) g (tET K O fte) (tE K O fe) vs σ H Q := fun σ H Q ⟨fc, ρ, Hd, z, ρ', S, hf, q⟩ => by
  unfold lcE at hf
  obtain ⟨ds, h1, hf⟩ := bind_some hf
  obtain ⟨ys, h2, hf⟩ := bind_some hf
  cases hf
  refine ⟨fc, ρ, Hd, ds.1, ds.2, S, h1, fun J Hd1 H1 S1 e1 hJ hz => fun D0 hD => ?_⟩
  have nD : Hd1 D0 = none := Evl.fresh_back S1.sub hD
  have fD : fc.H0 D0 = none := S1.fresh hD
  have oD : ∀ i ∈ O, ∀ d, ds.2[i]? = some (some d) → σ[i]? ≠ some (some (.ref D0)) := fun i hi d hd e => by
    obtain ⟨v, k1, _, k3⟩ := S1.val i d hd
    obtain ⟨a, rfl, _, w, _⟩ := k3 hi
    rw [e] at k1
    cases k1
    obtain ⟨o, ho⟩ := w.there
    rw [hD] at ho
    cases ho
  have oW : ∀ i ∈ O, ∀ d, (wipeE ds.2 vs)[i]? = some (some d) → (L2.wipe σ vs)[i]? ≠ some (some (.ref D0)) := fun i hi d hd e => by
    rw [wipe_get fun z => hv i z hi] at e
    exact oD i hi d (wipeE_get hd) e
  have SW : SR K fc O (wipeE ds.2 vs) Hd1 (L2.wipe σ vs) (upd H1 D0 (.lst [])) := (S1.wipe vs hv).aside fD nD oW
  refine ⟨fun i m H => m = ds.1.length - i ∧ i ≤ ds.1.length ∧ LcV K fc O vs (L2.wipe σ vs) bnd fte fe ys.2 Hd1 D0 ds.1 ys.1 i H, ⟨ds.1.length, by simp, Nat.zero_le _, ⟨⟨Hd1, _, SW, Evl.Ex.refl _, nD, oW, [], [], ys.1, upd_same, .nil, Nat.le_refl _, by rw [List.drop_zero]; exact h2, rfl⟩⟩⟩, ?_⟩
  rintro i m H2 ⟨rfl, hi, ⟨⟨Hd2, ρ2, S2, x2, n2, o2, av, ad, rest, hav, rav, hlen, hrest, hys⟩⟩⟩
  have it := hJ i Hd2 H2 x2 S2.sub fun h => nomatch h
  by_cases hlt : i < ds.1.length
  · have hd : ds.1[i]? = some ds.1[i] := List.getElem?_eq_getElem hlt
    obtain ⟨go, step⟩ := it.1 _ hd
    refine .inr ⟨go, fun H' => i + 1 ≤ ds.1.length ∧ LcV K fc O vs (L2.wipe σ vs) bnd fte fe ys.2 Hd1 D0 ds.1 ys.1 (i + 1) H', fun H' ⟨a1, a2⟩ => ⟨ds.1.length - (i + 1), by omega, rfl, a1, a2⟩, fun x H3 hy => ?_⟩
    obtain ⟨Hd3, g3, rx⟩ := step x H3 hy
    rw [List.drop_eq_getElem_cons hlt] at hrest
    unfold lcFE at hrest
    obtain ⟨ρ3, hb, hrest⟩ := bind_some hrest
    obtain ⟨b, ht, hrest⟩ := bind_some hrest
    obtain ⟨fc', b1, b2, SB, b3, back⟩ := S2.rebase
    have noD : ∀ i, (i, D0) ∉ fc'.io := fun i hi => by
      obtain ⟨k1, ⟨d, k2⟩, k3⟩ := b3 i D0 hi
      exact o2 i k1 d k2 k3
    -- what holds of any state that is reached from here
    have keep : ∀ {ρ' Hd' H' σ'}, SR K fc' O ρ' Hd' σ' H' → H' D0 = some (.lst av) ∧ Hd' D0 = none ∧ (∀ i ∈ O, ∀ d, ρ'[i]? = some (some d) → σ'[i]? ≠ some (some (.ref D0))) := fun {ρ' Hd' H' σ'} T => by
      refine ⟨T.frm D0 _ (by rw [b1]; exact hav) noD, ?_, fun i hi d hd e => ?_⟩
      · cases q1 : Hd' D0 with
        | none => rfl
        | some u =>
          have z := T.new D0 u q1 (by rw [b2]; exact n2)
          rw [b1, hav] at z
          cases z
      · obtain ⟨v, k1, _, k3⟩ := T.val i d hd
        obtain ⟨a, rfl, _, _, f⟩ := k3 hi
        rw [e] at k1
        cases k1
        rcases f with f | f
        · rw [b1, hav] at f
          cases f
        · exact noD i f
    have S3 : SR K fc' O ρ2 Hd3 (L2.wipe σ vs) H3 := SB.grow g3
    refine hg fc' _ Hd3 _ H3 x ds.1[i] ρ3 _ S3 rx hb fun σ4 S4 ew => ⟨by rw [ew]; exact t_lc.wipe_wipe, ?_⟩
    refine ⟨fc', ρ3, Hd3, b.1, b.2, S4, ht, fun Hd5 H5 S5 e5 => ?_⟩
    obtain ⟨bb, ρ5⟩ := b
    cases bb with
    | true =>
      obtain ⟨y, hy2, hrest⟩ := bind_some hrest
      obtain ⟨ws, hw, hrest⟩ := bind_some hrest
      obtain ⟨r1, r2⟩ := Prod.mk.inj (Option.some.inj hrest)
      subst r1
      have hw2 : lcFE bnd fte fe vs (ds.1.drop (i + 1)) (wipeE y.2 vs) = some (ws.1, ys.2) := by rw [← r2]; exact hw
      refine ⟨fc', ρ5, Hd5, y.1, y.2, S5, hy2, fun v Hd6 H6 S6 e6 rv => ?_⟩
      have T6 := S6.wipe vs hv
      rw [ew, t_lc.wipe_wipe] at T6
      obtain ⟨k1, k2, k3⟩ := keep T6
      have T7 := back _ _ _ T6
      have e26 : Ex Hd2 Hd6 := (g3.d.trans e5).trans e6
      exact ⟨av, k1, Nat.lt_of_le_of_lt hlen (Nat.lt_of_lt_of_le hlt hz), hlt, ⟨Hd6, _, T7.aside fD k2 k3, x2.trans e26, k2, k3, av ++ [v], ad ++ [y.1], ws.1, upd_same, (rav.mono e26).append (Rps.one rv), by rw [List.length_append, List.length_singleton]; omega, hw2, by rw [List.append_assoc]; exact hys⟩⟩
    | false =>
      have T6 := S5.wipe vs hv
      rw [ew, t_lc.wipe_wipe] at T6
      obtain ⟨k1, k2, k3⟩ := keep T6
      have e26 : Ex Hd2 Hd5 := g3.d.trans e5
      exact ⟨hlt, ⟨Hd5, _, back _ _ _ T6, x2.trans e26, k2, k3, av, ad, rest, k1, rav.mono e26, by omega, hrest, hys⟩⟩
  · have e : i = ds.1.length := by omega
    subst e
    rw [List.drop_length] at hrest
    cases hrest
    rw [List.append_nil] at hys
    refine .inl ⟨it.2 rfl, ?_⟩
    have T := S1.unwipe x2 hv S2
    have oT : ∀ i ∈ O, ∀ d, (unwipe vs 0 ds.2 ys.2)[i]? = some (some d) → σ[i]? ≠ some (some (.ref D0)) := fun i hi d hd e => by
      have hl : ds.2.length = ys.2.length := by rw [S1.len, S2.len, wipe_length]
      have nc : vs.contains i = false := by
        cases q : vs.contains i with
        | false => rfl
        | true => exact absurd hi (hv i (List.contains_iff_mem.mp q))
      rw [unwipe_get 0 i hl, Nat.zero_add, nc, if_neg Bool.false_ne_true] at hd
      refine o2 i hi d hd ?_
      rw [wipe_get fun z => hv i z hi]
      exact e
    have hT : Ow K Hd2 H2 D0 (.list ys.1) := by rw [← hys]; exact .lst hav rav (Nat.le_trans hlen hz)
    -- the list is data from now on
    have gx : Ex Hd2 (upd Hd2 D0 (.lst av)) := ex_upd n2
    refine q _ (upd Hd2 D0 (.lst av)) H2 ⟨fun b u eb => ?_, T.dat.trans gx, T.frm, fun p u eb np => ?_, T.io, fun i d hd => ?_, T.ap, T.len⟩ ((e1.trans x2).trans gx) (hT.settle n2 hav ⟨_, rfl⟩)
    · by_cases hb : b = D0
      · subst hb
        rw [upd_same] at eb
        cases eb
        exact hav
      · rw [upd_ne hb] at eb
        exact T.sub b u eb
    · by_cases hb : p = D0
      · subst hb
        exact fD
      · rw [upd_ne hb] at eb
        exact T.new p u eb np
    · obtain ⟨v, k1, k2, k3⟩ := T.val i d hd
      refine ⟨v, k1, fun n => (k2 n).mono gx, fun y => ?_⟩
      obtain ⟨a, rfl, na, wa, fa⟩ := k3 y
      have ne : a ≠ D0 := fun z => oT i y d hd (by rw [← z]; exact k1)
      exact ⟨a, rfl, by rw [upd_ne ne]; exact na, wa.move gx fun _ h => h, fa⟩
end
end PL

set_option Elab.async false
set_option linter.all false
set_option maxRecDepth 100000
namespace PL
open PySem PySem.Spec PyProof.Rows L2 PySem.W

/-! ### statements -/
inductive Fl where
  | nx | brk | cont
  | ret (d : D)
def FlP (K : PySem.W.Frag) (fc : FC) (I L O' : List Nat) (Dn : Ends) (Hd : Hp) (ρ' : Env) : Fl → Prop
  | .nx => ∀ Hd' σ' H', SR K fc O' ρ' Hd' σ' H' → Ex Hd Hd' → Dn.nx σ' H'
  | .brk => ∀ Hd' σ' H', SR K fc L ρ' Hd' σ' H' → Ex Hd Hd' → Dn.bk σ' H'
  | .cont => ∀ Hd' σ' H', SR K fc L ρ' Hd' σ' H' → Ex Hd Hd' → Dn.ct σ' H'
  | .ret d => ∀ Hd' σ' H' v, SR K fc I ρ' Hd' σ' H' → Ex Hd Hd' → Rp K Hd' v d → Dn.rt v H'
def tS (K : PySem.W.Frag) (I L O O' : List Nat) (g : Env → Option (Fl × Env)) : TS := fun Dn σ H =>
  ∃ fc ρ Hd fl ρ', SR K fc O ρ Hd σ H ∧ (∀ p ∈ fc.io, p.1 ∈ I) ∧ g ρ = some (fl, ρ') ∧ FlP K fc I L O' Dn Hd ρ' fl
/-! meanings -/
def nilS : Env → Option (Fl × Env) := fun ρ => some (.nx, ρ)
def seqS (g1 g2 : Env → Option (Fl × Env)) : Env → Option (Fl × Env) := fun ρ => (g1 ρ).bind fun x => match x.1 with
  | .nx => g2 x.2
  | fl => some (fl, x.2)
def asgS (j : Nat) (f : Env → Option D) : Env → Option (Fl × Env) := fun ρ => (f ρ).bind fun d => some (.nx, ρ.set j (some d))
def asgE (j : Nat) (f : Env → Option (D × Env)) : Env → Option (Fl × Env) := fun ρ => (f ρ).bind fun x => some (.nx, x.2.set j (some x.1))
def tgtS (bnd : D → Env → Option Env) (f : Env → Option (D × Env)) : Env → Option (Fl × Env) := fun ρ => (f ρ).bind fun x => (bnd x.1 x.2).bind fun ρ1 => some (.nx, ρ1)
def exprS (f : Env → Option (D × Env)) : Env → Option (Fl × Env) := fun ρ => (f ρ).bind fun x => some (.nx, x.2)
def retS (f : Env → Option D) : Env → Option (Fl × Env) := fun ρ => (f ρ).bind fun d => some (.ret d, ρ)
def retE (f : Env → Option (D × Env)) : Env → Option (Fl × Env) := fun ρ => (f ρ).bind fun x => some (.ret x.1, x.2)
def retN : Env → Option (Fl × Env) := fun ρ => some (.ret .none, ρ)
def brkS : Env → Option (Fl × Env) := fun ρ => some (.brk, ρ)
def contS : Env → Option (Fl × Env) := fun ρ => some (.cont, ρ)
def ifS (c : Env → Option Bool) (g h : Env → Option (Fl × Env)) : Env → Option (Fl × Env) := fun ρ => (c ρ).bind fun b => if b then g ρ else h ρ
def ifSE (c : Env → Option (Bool × Env)) (g h : Env → Option (Fl × Env)) : Env → Option (Fl × Env) := fun ρ => (c ρ).bind fun b => if b.1 then g b.2 else h b.2
def forF (bnd : D → Env → Option Env) (body : Env → Option (Fl × Env)) : List D → Env → Option (Fl × Env)
  | [], ρ => some (.nx, ρ)
  | d :: ds, ρ => (bnd d ρ).bind fun ρ1 => (body ρ1).bind fun r => match r.1 with
    | .nx => forF bnd body ds r.2
    | .cont => forF bnd body ds r.2
    | .brk => some (.nx, r.2)
    | .ret v => some (.ret v, r.2)
def forS (it : Env → Option (List D)) (bnd : D → Env → Option Env) (body : Env → Option (Fl × Env)) : Env → Option (Fl × Env) := fun ρ => (it ρ).bind fun ds => forF bnd body ds ρ
def forE (it : Env → Option (List D × Env)) (bnd : D → Env → Option Env) (body : Env → Option (Fl × Env)) : Env → Option (Fl × Env) := fun ρ => (it ρ).bind fun x => forF bnd body x.1 x.2
def whileF (c : Env → Option Bool) (body : Env → Option (Fl × Env)) : Nat → Env → Option (Fl × Env)
  | 0, _ => none
  | n + 1, ρ => (c ρ).bind fun b => if b then (body ρ).bind fun r => match r.1 with
    | .nx => whileF c body n r.2
    | .cont => whileF c body n r.2
    | .brk => some (.nx, r.2)
    | .ret v => some (.ret v, r.2) else some (.nx, ρ)
section
variable {X : Cx} {K : PySem.W.Frag} {I L O O1 O2 O' : List Nat} {st : Stmt} {rest body : List Stmt} {g g1 g2 : Env → Option (Fl × Env)} {e c : Expr} {te : TE} {m : Md} {f : Env → Option D} {fe : Env → Option (D × Env)} {ft : Env → Option Bool} {fte : Env → Option (Bool × Env)} {pos : Pos} {j : Nat} {bnd : D → Env → Option Env} {tg : TG}
theorem FlP.weaken {fc : FC} {Dn : Ends} {Hd Hd1 : Hp} {ρ' : Env} {fl : Fl} (h : FlP K fc I L O' Dn Hd ρ' fl) (e : Ex Hd Hd1) : FlP K fc I L O' Dn Hd1 ρ' fl := by
  cases fl with
  | nx => exact fun Hd' σ' H' S x => h Hd' σ' H' S (e.trans x)
  | brk => exact fun Hd' σ' H' S x => h Hd' σ' H' S (e.trans x)
  | cont => exact fun Hd' σ' H' S x => h Hd' σ' H' S (e.trans x)
  | ret d => exact fun Hd' σ' H' v S x => h Hd' σ' H' v S (e.trans x)
def sub (a b : List Nat) : Bool := a.all fun i => b.contains i
theorem sub_mem {a b : List Nat} (h : sub a b = true) : ∀ i ∈ a, i ∈ b := fun i hi => List.contains_iff_mem.mp (List.all_eq_true.mp h i hi)
/-- fewer to be changed from here on -/
theorem t_weak (h1 : sub O1 O = true) (h2 : sub I O1 = true) : ∀ Dn σ H, tS K I L O O' g Dn σ H → Gh (fun H' => tS K I L O1 O' g Dn σ H') H := fun Dn σ H ⟨fc, ρ, Hd, fl, ρ', S, io, hg, q⟩ =>
  (S.weak O1 (sub_mem h1) fun p hp => sub_mem h2 _ (io p hp)).mono fun H1 ⟨Hd1, S1, e1⟩ => ⟨fc, ρ, Hd1, fl, ρ', S1, io, hg, q.weaken e1⟩
theorem s_weak (h : PS X st (tS X.K I L O1 O' g)) (h1 : sub O1 O = true := by rfl) (h2 : sub I O1 = true := by rfl) : PS X st (tS X.K I L O O' g) := PS.imp (PS.ghPre h) (t_weak h1 h2)
theorem ss_weak {sts : List Stmt} (h : PSs X sts (tS X.K I L O1 O' g)) (h1 : sub O1 O = true := by rfl) (h2 : sub I O1 = true := by rfl) : PSs X sts (tS X.K I L O O' g) := PSs.imp (PSs.ghPre h) (t_weak h1 h2)
theorem t_post (h1 : sub O2 O1 = true) (h2 : sub I O2 = true) : ∀ Dn σ H, tS K I L O O2 g Dn σ H → tS K I L O O1 g (ghD Dn) σ H := fun Dn σ H ⟨fc, ρ, Hd, fl, ρ', S, io, hg, q⟩ => by
  refine ⟨fc, ρ, Hd, fl, ρ', S, io, hg, ?_⟩
  cases fl with
  | nx =>
    intro Hd' σ' H' S' x
    exact (S'.weak O2 (sub_mem h1) fun p hp => sub_mem h2 _ (io p hp)).mono fun H1 ⟨Hd1, S1, e1⟩ => q Hd1 σ' H1 S1 (x.trans e1)
  | brk => exact q
  | cont => exact q
  | ret d => exact q
theorem ss_post {sts : List Stmt} (h : PSs X sts (tS X.K I L O O1 g)) (h1 : sub O2 O1 = true := by rfl) (h2 : sub I O2 = true := by rfl) : PSs X sts (tS X.K I L O O2 g) := PSs.imp (PSs.ghPost h) (t_post h1 h2)
theorem s_post (h : PS X st (tS X.K I L O O1 g)) (h1 : sub O2 O1 = true := by rfl) (h2 : sub I O2 = true := by rfl) : PS X st (tS X.K I L O O2 g) := PS.imp (PS.ghPost h) (t_post h1 h2)
theorem s_nil : PSs X [] (tS X.K I L O O nilS) := PSs.imp pss_nil fun Dn σ H ⟨fc, ρ, Hd, fl, ρ', S, io, hg, q⟩ => by
  cases hg
  exact q Hd σ H S (Evl.Ex.refl _)
theorem s_one (h : PS X st (tS X.K I L O O' g)) : PSs X [st] (tS X.K I L O O' g) := pss_one h
theorem s_cons (h1 : PS X st (tS X.K I L O O1 g1)) (h2 : PSs X rest (tS X.K I L O1 O2 g2)) : PSs X (st :: rest) (tS X.K I L O O2 (seqS g1 g2)) := PSs.imp (pss_cons h1 h2) fun Dn σ H ⟨fc, ρ, Hd, fl, ρ', S, io, hg, q⟩ => by
  unfold seqS at hg
  obtain ⟨x, hx, hg⟩ := bind_some hg
  obtain ⟨f1, ρ1⟩ := x
  refine ⟨fc, ρ, Hd, f1, ρ1, S, io, hx, ?_⟩
  cases f1 with
  | nx => exact fun Hd' σ' H' S' e' => ⟨fc, ρ1, Hd', fl, ρ', S', io, hg, q.weaken e'⟩
  | brk => cases hg; exact q
  | cont => cases hg; exact q
  | ret d => cases hg; exact q
theorem s_pass : PS X (.Pass pos) (tS X.K I L O O nilS) := PS.imp ps_pass fun Dn σ H ⟨fc, ρ, Hd, fl, ρ', S, io, hg, q⟩ => by
  cases hg
  exact q Hd σ H S (Evl.Ex.refl _)
theorem s_break : PS X (.Break pos) (tS X.K I O O O brkS) := PS.imp ps_break fun Dn σ H ⟨fc, ρ, Hd, fl, ρ', S, io, hg, q⟩ => by
  cases hg
  exact q Hd σ H S (Evl.Ex.refl _)
theorem s_continue : PS X (.Continue pos) (tS X.K I O O O contS) := PS.imp ps_continue fun Dn σ H ⟨fc, ρ, Hd, fl, ρ', S, io, hg, q⟩ => by
  cases hg
  exact q Hd σ H S (Evl.Ex.refl _)
/-- name = e: data -/
theorem s_asg (h : PS X st (tAsg te (gName j))) (hte : ∀ σ H Q, tP X.K .dat O f σ H Q → te σ H Q) (hj : O.contains j = false := by rfl) : PS X st (tS X.K I L O O (asgS j f)) := PS.imp h fun Dn σ H ⟨fc, ρ, Hd, fl, ρ', S, io, hg, q⟩ => by
  unfold asgS at hg
  obtain ⟨d, h1, hg⟩ := bind_some hg
  cases hg
  exact hte _ _ _ ⟨fc, ρ, Hd, d, S, h1, fun v Hd' H' g1 r => q Hd' _ H' ((S.grow g1).set (fun z => by rw [List.contains_iff_mem.mpr z] at hj; cases hj) r) g1.d⟩
theorem s_asgE (h : PS X st (tAsg te (gName j))) (hte : ∀ σ H Q, tE X.K O fe σ H Q → te σ H Q) (hj : O.contains j = false := by rfl) : PS X st (tS X.K I L O O (asgE j fe)) := PS.imp h fun Dn σ H ⟨fc, ρ, Hd, fl, ρ', S, io, hg, q⟩ => by
  unfold asgE at hg
  obtain ⟨d, h1, hg⟩ := bind_some hg
  cases hg
  exact hte _ _ _ ⟨fc, ρ, Hd, d.1, d.2, S, h1, fun v Hd' H' S1 e1 r => q Hd' _ H' (S1.set (fun z => by rw [List.contains_iff_mem.mpr z] at hj; cases hj) r) e1⟩
/-- name = e: a new object that may be changed -/
theorem SR.own {fc : FC} {ρ : Env} {σ : L2.St} {Hd H : Hp} {d : D} {a : Addr} (S : SR K fc O ρ Hd σ H) (hj : j ∉ O) (w : Ow K Hd H a d) (n : Hd a = none) (fr : fc.H0 a = none) (oD : ∀ i ∈ O, ∀ d, ρ[i]? = some (some d) → σ[i]? ≠ some (some (.ref a))) :
    SR K fc (j :: O) (ρ.set j (some d)) Hd (σ.set j (some (.ref a))) H := by
  have get : ∀ {i : Nat}, i ≠ j → (ρ.set j (some d))[i]? = ρ[i]? ∧ (σ.set j (some (.ref a)))[i]? = σ[i]? := fun {i} h => ⟨List.getElem?_set_ne (Ne.symm h), List.getElem?_set_ne (Ne.symm h)⟩
  have at_ : ∀ {e : D}, (ρ.set j (some d))[j]? = some (some e) → e = d ∧ (σ.set j (some (.ref a)))[j]? = some (some (.ref a)) := fun {e} h => by
    have hlt : j < ρ.length := by
      obtain ⟨hlt, _⟩ := List.getElem?_eq_some_iff.mp h
      rw [List.length_set] at hlt
      exact hlt
    rw [List.getElem?_set_self hlt] at h
    cases h
    exact ⟨rfl, by rw [List.getElem?_set_self (by rw [← S.len]; exact hlt)]⟩
  refine ⟨S.sub, S.dat, S.frm, S.new, fun p hp => ?_, fun i e he => ?_, fun i l b e1 e2 hi hl h1 h2 k1 k2 => ?_, by rw [List.length_set, List.length_set]; exact S.len⟩
  · obtain ⟨p1, p2, dd, p3⟩ := S.io p hp
    have ne : p.1 ≠ j := fun z => hj (z ▸ p1)
    exact ⟨.tail _ p1, by rw [(get ne).2]; exact p2, dd, by rw [(get ne).1]; exact p3⟩
  · by_cases hij : i = j
    · subst hij
      obtain ⟨rfl, q⟩ := at_ he
      exact ⟨_, q, fun z => absurd List.mem_cons_self z, fun _ => ⟨a, rfl, n, w, .inl fr⟩⟩
    · rw [(get hij).1] at he
      rw [(get hij).2]
      obtain ⟨v, g1, g2, g3⟩ := S.val i e he
      exact ⟨v, g1, fun z => g2 fun y => z (.tail _ y), fun y => g3 ((List.mem_cons.mp y).elim (fun z => absurd z hij) id)⟩
  · by_cases h3 : i = j
    · by_cases h4 : l = j
      · rw [h3, h4]
      · exfalso
        subst h3
        rw [(at_ h1).2] at k1
        cases k1
        rw [(get h4).1] at h2
        rw [(get h4).2] at k2
        exact oD l ((List.mem_cons.mp hl).elim (fun z => absurd z h4) id) e2 h2 k2
    · by_cases h4 : l = j
      · exfalso
        subst h4
        rw [(at_ h2).2] at k2
        cases k2
        rw [(get h3).1] at h1
        rw [(get h3).2] at k1
        exact oD i ((List.mem_cons.mp hi).elim (fun z => absurd z h3) id) e1 h1 k1
      · rw [(get h3).1] at h1
        rw [(get h3).2] at k1
        rw [(get h4).1] at h2
        rw [(get h4).2] at k2
        exact S.ap i l b e1 e2 ((List.mem_cons.mp hi).elim (fun z => absurd z h3) id) ((List.mem_cons.mp hl).elim (fun z => absurd z h4) id) h1 h2 k1 k2
theorem SR.notIn {fc : FC} {ρ : Env} {σ : L2.St} {Hd H : Hp} {a : Addr} (S : SR K fc O ρ Hd σ H) (hD : H a = none) : ∀ i ∈ O, ∀ d, ρ[i]? = some (some d) → σ[i]? ≠ some (some (.ref a)) := fun i hi d hd e => by
  obtain ⟨v, k1, _, k3⟩ := S.val i d hd
  obtain ⟨b, rfl, _, w, _⟩ := k3 hi
  rw [e] at k1
  cases k1
  obtain ⟨o, ho⟩ := w.there
  rw [hD] at ho
  cases ho
theorem s_own (h : PS X st (tAsg te (gName j))) (hte : ∀ σ H Q, tP X.K .fre O f σ H Q → te σ H Q) (hj : O.contains j = false := by rfl) : PS X st (tS X.K I L O (j :: O) (asgS j f)) := PS.imp h fun Dn σ H ⟨fc, ρ, Hd, fl, ρ', S, io, hg, q⟩ => by
  unfold asgS at hg
  obtain ⟨d, h1, hg⟩ := bind_some hg
  cases hg
  refine hte _ _ _ ⟨fc, ρ, Hd, d, S, h1, fun v Hd' H' g1 ⟨p, ev, np, nd, w⟩ => ?_⟩
  subst ev
  exact q Hd' _ H' ((S.grow g1).own (fun z => by rw [List.contains_iff_mem.mpr z] at hj; cases hj) w nd (S.fresh np) (S.notIn np)) g1.d
/-- targets = e -/
theorem s_tgt {vs : List Nat} (h : PS X st (tAsg te tg)) (hb : BndOk X.K O tg bnd vs) (hte : ∀ σ H Q, tE X.K O fe σ H Q → te σ H Q) : PS X st (tS X.K I L O O (tgtS bnd fe)) := PS.imp h fun Dn σ H ⟨fc, ρ, Hd, fl, ρ', S, io, hg, q⟩ => by
  unfold tgtS at hg
  obtain ⟨d, h1, hg⟩ := bind_some hg
  obtain ⟨ρ1, h2, hg⟩ := bind_some hg
  cases hg
  exact hte _ _ _ ⟨fc, ρ, Hd, d.1, d.2, S, h1, fun v Hd' H' S1 e1 r => hb fc d.2 Hd' σ H' v d.1 _ _ S1 r h2 fun σ1 S2 _ => q Hd' σ1 H' S2 e1⟩
theorem s_expr (he : PE X e (tE X.K O fe)) (hs : swapsWith e none pos.line X.env = pure false := by rfl) : PS X (.Expr e pos) (tS X.K I L O O (exprS fe)) := PS.imp (ps_expr he hs) fun Dn σ H ⟨fc, ρ, Hd, fl, ρ', S, io, hg, q⟩ => by
  unfold exprS at hg
  obtain ⟨d, h1, hg⟩ := bind_some hg
  cases hg
  exact ⟨fc, ρ, Hd, d.1, d.2, S, h1, fun v Hd' H' S1 e1 r => q Hd' σ H' S1 e1⟩
theorem s_ret (he : PE X e (tP X.K .dat I f)) : PS X (.Return (some e) pos) (tS X.K I L I I (retS f)) := PS.imp (ps_ret he) fun Dn σ H ⟨fc, ρ, Hd, fl, ρ', S, io, hg, q⟩ => by
  unfold retS at hg
  obtain ⟨d, h1, hg⟩ := bind_some hg
  cases hg
  exact ⟨fc, ρ, Hd, d, S, h1, fun v Hd' H' g1 r => q Hd' σ H' v (S.grow g1) g1.d r⟩
theorem s_retE (he : PE X e (tE X.K I fe)) : PS X (.Return (some e) pos) (tS X.K I L I I (retE fe)) := PS.imp (ps_ret he) fun Dn σ H ⟨fc, ρ, Hd, fl, ρ', S, io, hg, q⟩ => by
  unfold retE at hg
  obtain ⟨d, h1, hg⟩ := bind_some hg
  cases hg
  exact ⟨fc, ρ, Hd, d.1, d.2, S, h1, fun v Hd' H' S1 e1 r => q Hd' σ H' v S1 e1 r⟩
theorem s_retN : PS X (.Return none pos) (tS X.K I L I I retN) := PS.imp ps_retN fun Dn σ H ⟨fc, ρ, Hd, fl, ρ', S, io, hg, q⟩ => by
  cases hg
  exact q Hd σ H .non S (Evl.Ex.refl _) .non
theorem s_if {a b : List Stmt} (hc : PT X c (tPT X.K O ft)) (ha : PSs X a (tS X.K I L O O' g1)) (hb : PSs X b (tS X.K I L O O' g2)) : PS X (.If c a b pos) (tS X.K I L O O' (ifS ft g1 g2)) := PS.imp (ps_if hc ha hb) fun Dn σ H ⟨fc, ρ, Hd, fl, ρ', S, io, hg, q⟩ => by
  unfold ifS at hg
  obtain ⟨d, h1, hg⟩ := bind_some hg
  refine ⟨fc, ρ, Hd, d, S, h1, fun Hd' H' gr => ?_⟩
  cases d with
  | true => exact ⟨fc, ρ, Hd', fl, ρ', S.grow gr, io, hg, q.weaken gr.d⟩
  | false => exact ⟨fc, ρ, Hd', fl, ρ', S.grow gr, io, hg, q.weaken gr.d⟩
theorem s_ifE {a b : List Stmt} (hc : PT X c (tET X.K O fte)) (ha : PSs X a (tS X.K I L O O' g1)) (hb : PSs X b (tS X.K I L O O' g2)) : PS X (.If c a b pos) (tS X.K I L O O' (ifSE fte g1 g2)) := PS.imp (ps_if hc ha hb) fun Dn σ H ⟨fc, ρ, Hd, fl, ρ', S, io, hg, q⟩ => by
  unfold ifSE at hg
  obtain ⟨d, h1, hg⟩ := bind_some hg
  refine ⟨fc, ρ, Hd, d.1, d.2, S, h1, fun Hd' H' S1 e1 => ?_⟩
  obtain ⟨d1, d2⟩ := d
  cases d1 with
  | true => exact ⟨fc, d2, Hd', fl, ρ', S1, io, hg, q.weaken e1⟩
  | false => exact ⟨fc, d2, Hd', fl, ρ', S1, io, hg, q.weaken e1⟩
/-! loops -/
theorem for_core {fc : FC} {Hd1 Hd0 H1 : Hp} {ds : List D} {J : It} {fl : Fl} {ρ1 ρ' : Env} {Dn : Ends} {σ : L2.St} {vs : List Nat} (hb : BndOk K O tg bnd vs) (S1 : SR K fc O ρ1 Hd1 σ H1) (io : ∀ p ∈ fc.io, p.1 ∈ I) (hf : forF bnd g ds ρ1 = some (fl, ρ')) (q : FlP K fc I L O Dn Hd0 ρ' fl) (e01 : Ex Hd0 Hd1) (hJ : ItD K true J Hd1 H1 ds) :
    ∃ W : Nat → Nat → L2.St → Hp → Prop, (∃ m, W 0 m σ H1) ∧ ∀ i m σ H, W i m σ H →
      (J.stop i H ∧ Dn.nx σ H) ∨ (J.go i H ∧ ∃ N : L2.St → Hp → Prop, (∀ σ' H', N σ' H' → ∃ m', m' < m ∧ W (i + 1) m' σ' H') ∧ ∀ x H', J.yld i H x H' → tg x σ H' fun σ2 H2 => tS K I O O O g { Dn with nx := N, ct := N, bk := Dn.nx } σ2 H2) := by
  refine ⟨fun i m σ H => m = ds.length - i ∧ i ≤ ds.length ∧ ∃ Hd ρ, SR K fc O ρ Hd σ H ∧ Ex Hd1 Hd ∧ forF bnd g (ds.drop i) ρ = some (fl, ρ'), ⟨ds.length, by simp, Nat.zero_le _, Hd1, ρ1, S1, Evl.Ex.refl _, by rw [List.drop_zero]; exact hf⟩, ?_⟩
  rintro i m σ2 H2 ⟨rfl, hi, Hd2, ρ2, S2, x2, h2⟩
  have it := hJ i Hd2 H2 x2 S2.sub fun h => nomatch h
  by_cases hlt : i < ds.length
  · have hd : ds[i]? = some ds[i] := List.getElem?_eq_getElem hlt
    obtain ⟨go, step⟩ := it.1 _ hd
    refine .inr ⟨go, fun σ' H' => i + 1 ≤ ds.length ∧ ∃ Hd ρ, SR K fc O ρ Hd σ' H' ∧ Ex Hd1 Hd ∧ forF bnd g (ds.drop (i + 1)) ρ = some (fl, ρ'), fun σ' H' ⟨a1, a2⟩ => ⟨ds.length - (i + 1), by omega, rfl, a1, a2⟩, fun x H3 hy => ?_⟩
    obtain ⟨Hd3, g3, rx⟩ := step x H3 hy
    rw [List.drop_eq_getElem_cons hlt] at h2
    unfold forF at h2
    obtain ⟨ρ3, hbd, h2⟩ := bind_some h2
    obtain ⟨r, hr, h2⟩ := bind_some h2
    obtain ⟨f4, ρ4⟩ := r
    refine hb fc ρ2 Hd3 σ2 H3 x ds[i] ρ3 _ (S2.grow g3) rx hbd fun σ4 S4 _ => ⟨fc, ρ3, Hd3, f4, ρ4, S4, io, hr, ?_⟩
    have x3 : Ex Hd1 Hd3 := x2.trans g3.d
    cases f4 with
    | nx => exact fun Hd' σ' H' S' e' => ⟨hlt, Hd', ρ4, S', x3.trans e', h2⟩
    | cont => exact fun Hd' σ' H' S' e' => ⟨hlt, Hd', ρ4, S', x3.trans e', h2⟩
    | brk =>
      cases h2
      exact fun Hd' σ' H' S' e' => q Hd' σ' H' S' ((e01.trans x3).trans e')
    | ret d =>
      cases h2
      exact fun Hd' σ' H' v S' e' rv => q Hd' σ' H' v S' ((e01.trans x3).trans e') rv
  · have e : i = ds.length := by omega
    subst e
    rw [List.drop_length] at h2
    cases h2
    exact .inl ⟨it.2 rfl, q Hd2 σ2 H2 S2 (e01.trans x2)⟩
theorem s_for {target iter : Expr} {vs : List Nat} {it : Env → Option (List D)} (hp : PassesOwn (model X.prog X.w) X.A X.env X.xe) (hc : X.calm = true) (hi : PI X target iter (tI X.K true O it)) (hg : PG X target tg) (hbd : BndOk X.K O tg bnd vs) (hb : PSs X body (tS X.K I O O O g))
    (hs : ∀ x, foldedSetIterable iter X.env x = pure x := by intro _; rfl) : PS X (.For target iter body [] pos) (tS X.K I L O O (forS it bnd g)) := PS.imp (ps_for hp hc hi hg hb hs) fun Dn σ H ⟨fc, ρ, Hd, fl, ρ', S, io, hf, q⟩ => by
  unfold forS at hf
  obtain ⟨ds, h1, hf⟩ := bind_some hf
  exact ⟨fc, ρ, Hd, ds, S, h1, fun J Hd1 H1 gr hJ hz => for_core hbd (S.grow gr) io hf q gr.d hJ⟩
theorem s_forE {target iter : Expr} {vs : List Nat} {it : Env → Option (List D × Env)} (hp : PassesOwn (model X.prog X.w) X.A X.env X.xe) (hc : X.calm = true) (hi : PI X target iter (tIE X.K O it)) (hg : PG X target tg) (hbd : BndOk X.K O tg bnd vs) (hb : PSs X body (tS X.K I O O O g))
    (hs : ∀ x, foldedSetIterable iter X.env x = pure x := by intro _; rfl) : PS X (.For target iter body [] pos) (tS X.K I L O O (forE it bnd g)) := PS.imp (ps_for hp hc hi hg hb hs) fun Dn σ H ⟨fc, ρ, Hd, fl, ρ', S, io, hf, q⟩ => by
  unfold forE at hf
  obtain ⟨ds, h1, hf⟩ := bind_some hf
  exact ⟨fc, ρ, Hd, ds.1, ds.2, S, h1, fun J Hd1 H1 S1 e1 hJ hz => for_core hbd S1 io hf q e1 hJ⟩
theorem s_while {N : Nat} (hp : PassesOwn (model X.prog X.w) X.A X.env X.xe) (hc : PT X c (tPT X.K O ft)) (hb : PSs X body (tS X.K I O O O g)) : PS X (.While c body [] pos) (tS X.K I L O O (whileF ft g N)) := PS.imp (ps_while hp hc hb) fun Dn σ H ⟨fc, ρ, Hd, fl, ρ', S, io, hf, q⟩ => by
  refine ⟨fun m σ H => ∃ Hd1 ρ1, SR X.K fc O ρ1 Hd1 σ H ∧ Ex Hd Hd1 ∧ whileF ft g m ρ1 = some (fl, ρ'), ⟨N, Hd, ρ, S, Evl.Ex.refl _, hf⟩, ?_⟩
  rintro m σ2 H2 ⟨Hd2, ρ2, S2, x2, h2⟩
  cases m with
  | zero => cases h2
  | succ m =>
    unfold whileF at h2
    obtain ⟨b, h1, h2⟩ := bind_some h2
    refine ⟨fc, ρ2, Hd2, b, S2, h1, fun Hd3 H3 g3 => ?_⟩
    cases b with
    | false =>
      cases h2
      exact q Hd3 σ2 H3 (S2.grow g3) (x2.trans g3.d)
    | true =>
      obtain ⟨r, hr, h2⟩ := bind_some h2
      obtain ⟨f4, ρ4⟩ := r
      refine ⟨fun σ' H' => ∃ Hd1 ρ1, SR X.K fc O ρ1 Hd1 σ' H' ∧ Ex Hd Hd1 ∧ whileF ft g m ρ1 = some (fl, ρ'), fun σ' H' h => ⟨m, Nat.lt_succ_self m, h⟩, fc, ρ2, Hd3, f4, ρ4, S2.grow g3, io, hr, ?_⟩
      have x3 := x2.trans g3.d
      cases f4 with
      | nx => exact fun Hd' σ' H' S' e' => ⟨Hd', ρ4, S', x3.trans e', h2⟩
      | cont => exact fun Hd' σ' H' S' e' => ⟨Hd', ρ4, S', x3.trans e', h2⟩
      | brk =>
        cases h2
        exact fun Hd' σ' H' S' e' => q Hd' σ' H' S' (x3.trans e')
      | ret d =>
        cases h2
        exact fun Hd' σ' H' v S' e' rv => q Hd' σ' H' v S' (x3.trans e') rv
end
end PL

set_option Elab.async false
set_option linter.all false
set_option maxRecDepth 100000
namespace PL
open PySem PySem.Spec PyProof.Rows L2 PySem.W

/-! ### defs -/
def outD : Fl → Option D
  | .ret d => some d
  | .nx => some .none
  | _ => none
def begE (N : Nat) (ds : List D) : Env := ds.map some ++ List.replicate (N - ds.length) none
def bodyD (N : Nat) (g : Env → Option (Fl × Env)) : List D → Option D := fun ds => (g (begE N ds)).bind fun r => outD r.1
def bodyW (N : Nat) (g : Env → Option (Fl × Env)) : D → List D → Option (D × D) := fun w ds => (g (begE N (w :: ds))).bind fun r => (outD r.1).bind fun d => (var 0 r.2).bind fun w' => some (d, w')
section
variable {P : Program} {w : World} {K : PySem.W.Frag} {mg : Str → Option Value} {base : Heap} {x qual : Str} {st : Stmt} {fa : Addr} {fd : FuncData} {N ps : List Str} {lv n : Nat} {g : Env → Option (Fl × Env)} {O' : List Nat}
theorem begE_get {N : Nat} {ds : List D} {i : Nat} {d : D} (h : (begE N ds)[i]? = some (some d)) : ds[i]? = some d := by
  unfold begE at h
  by_cases hi : i < ds.length
  · rw [List.getElem?_append_left (by rw [List.length_map]; exact hi), List.getElem?_map] at h
    cases e : ds[i]? with
    | none => rw [e] at h; cases h
    | some y => rw [e] at h; cases h; rfl
  · rw [List.getElem?_append_right (by rw [List.length_map]; omega), List.getElem?_replicate] at h
    split at h <;> cases h
theorem start_get {N : List Str} {vs : List V} {i : Nat} {v : V} (h : vs[i]? = some v) : (L2.start N vs)[i]? = some (some v) := by
  unfold L2.start
  obtain ⟨hlt, _⟩ := List.getElem?_eq_some_iff.mp h
  rw [List.getElem?_append_left (by rw [List.length_map]; exact hlt), List.getElem?_map, h]
  rfl
theorem beg_len {N : List Str} {vs : List V} {ds : List D} (h : vs.length = ds.length) : (begE N.length ds).length = (L2.start N vs).length := by
  unfold begE L2.start
  rw [List.length_append, List.length_append, List.length_map, List.length_map, List.length_replicate, List.length_replicate, h]
theorem beg_SR {H Hd : Hp} {vs : List V} {ds : List D} (e : Ex Hd H) (r : Rps K Hd vs ds) : SR K ⟨H, Hd, []⟩ [] (begE N.length ds) Hd (L2.start N vs) H := by
  refine ⟨e, Evl.Ex.refl _, fun b o h _ => h, fun p o h z => (by
    have z2 : Hd p = none := z
    rw [z2] at h
    cases h), fun p hp => (nomatch hp), fun i d h => ?_, fun i j a d d' hi => (nomatch hi), beg_len r.length⟩
  obtain ⟨v, hv, rv⟩ := r.get (begE_get h)
  exact ⟨v, start_get hv, fun _ => rv, fun z => nomatch z⟩
/-- a def that changes nothing of its caller's -/
theorem fn_pureOk (F : Fun K x qual st fa fd) (S : FnScope N ps (defScope st)) (hn : ps.length = n)
    (body : ∀ (cdv : Value) (A : Around) (outer : List PySem.Env) (s : Shared) (H : Hp) (E : XK), Room lv (A.deeper (envOfC qual (defScope st) s.heap.objs.size fa cdv)) → PSs (cxOf CX0 P w K mg base N qual (defScope st) fa cdv A outer s H E).nox (defBody st) (tS K [] [] [] O' g)) :
    FnOk P w K mg base CX0 (lv + 1) fa fd ps (SpP K n (bodyD N.length g)) := by
  refine F.ok S (fun vs H Q E h => by rw [h.1, hn]) (fun cdv A outer s H vs Q E hr h => ⟨_, body cdv A outer s H E hr, ?_⟩)
  obtain ⟨hl, Hd, ds, z, e, r, hk, q⟩ := h
  unfold bodyD at hk
  obtain ⟨y, h1, hk⟩ := bind_some hk
  obtain ⟨fl, ρ'⟩ := y
  refine ⟨⟨H, Hd, []⟩, _, Hd, fl, ρ', beg_SR e r, fun p hp => (nomatch hp), h1, ?_⟩
  have fin : ∀ {O2 : List Nat} {Hd' σ' H' v}, SR K ⟨H, Hd, []⟩ O2 ρ' Hd' σ' H' → Rp K Hd' v z → Q v H' := fun {O2 Hd' σ' H' v} T rv =>
    q v Hd' H' ⟨T.dat, fun b o h => T.frm b o h fun i hi => (nomatch hi), T.sub, fun p o h z => T.new p o h z⟩ rv
  cases fl with
  | ret d =>
    cases hk
    exact fun Hd' σ' H' v T _ rv => fin T rv
  | nx =>
    cases hk
    exact fun Hd' σ' H' T _ => fin T .non
  | brk => cases hk
  | cont => cases hk
theorem fn_pure (F : Fun K x qual st fa fd) (S : FnScope N ps (defScope st)) (hg : mg x = some (.ref fa)) (hb : Binds K fd ps []) (hn : ps.length = n)
    (body : ∀ (cdv : Value) (A : Around) (outer : List PySem.Env) (s : Shared) (H : Hp) (E : XK), Room lv (A.deeper (envOfC qual (defScope st) s.heap.objs.size fa cdv)) → PSs (cxOf CX0 P w K mg base N qual (defScope st) fa cdv A outer s H E).nox (defBody st) (tS K [] [] [] O' g)) :
    Df P w K mg base (lv + 1) x (SpP K n (bodyD N.length g)) := ⟨fa, fd, ps, fn_pureOk F S hn body, hg, F.kp, hb⟩
/-- a def that changes its first argument -/
theorem fn_w (F : Fun K x qual st fa fd) (S : FnScope N ps (defScope st)) (hg : mg x = some (.ref fa)) (hb : Binds K fd ps []) (hn : ps.length = n)
    (body : ∀ (cdv : Value) (A : Around) (outer : List PySem.Env) (s : Shared) (H : Hp) (E : XK), Room lv (A.deeper (envOfC qual (defScope st) s.heap.objs.size fa cdv)) → PSs (cxOf CX0 P w K mg base N qual (defScope st) fa cdv A outer s H E).nox (defBody st) (tS K [0] [0] [0] (0 :: O') g)) :
    Df P w K mg base (lv + 1) x (SpW K n (bodyW N.length g)) := by
  refine ⟨fa, fd, ps, F.ok S (fun vs H Q E h => by rw [h.1, hn]) (fun cdv A outer s H vs Q E hr h => ⟨_, body cdv A outer s H E hr, ?_⟩), hg, F.kp, hb⟩
  obtain ⟨hl, Hd, wa, wr, ds, z, w', e, rfl, nw, r, ⟨d0, ow, hk⟩, q⟩ := h
  unfold bodyW at hk
  obtain ⟨y, h1, hk⟩ := bind_some hk
  obtain ⟨dz, h2, hk⟩ := bind_some hk
  obtain ⟨dw, h3, hk⟩ := bind_some hk
  have hk := Option.some.inj hk
  obtain ⟨rfl, rfl⟩ := Prod.mk.inj hk
  obtain ⟨fl, ρ'⟩ := y
  have S0 : SR K ⟨H, Hd, [(0, wa)]⟩ [0] (begE N.length (d0 :: ds)) Hd (L2.start N (.ref wa :: wr)) H := by
    refine ⟨e, Evl.Ex.refl _, fun b o h _ => h, fun p o h z => (by
      have z2 : Hd p = none := z
      rw [z2] at h
      cases h), fun p hp => ?_, fun i d h => ?_, fun i j a d d' hi hj _ _ _ _ => ?_, beg_len (by rw [List.length_cons, List.length_cons, r.length])⟩
    · obtain rfl := List.mem_singleton.mp hp
      exact ⟨List.mem_singleton.mpr rfl, rfl, d0, rfl⟩
    · have h' := begE_get h
      cases i with
      | zero =>
        cases h'
        exact ⟨_, rfl, fun z => absurd (List.mem_singleton.mpr rfl) z, fun _ => ⟨wa, rfl, nw, ow, .inr (List.mem_singleton.mpr rfl)⟩⟩
      | succ i =>
        obtain ⟨v, hv, rv⟩ := r.get (show ds[i]? = some d from h')
        exact ⟨v, start_get (show (V.ref wa :: wr)[i + 1]? = some v from hv), fun _ => rv, fun z => by simp at z⟩
    · rw [List.mem_singleton.mp hi, List.mem_singleton.mp hj]
  refine ⟨⟨H, Hd, [(0, wa)]⟩, _, Hd, fl, ρ', S0, fun p hp => by rw [List.mem_singleton.mp hp]; exact List.mem_singleton.mpr rfl, h1, ?_⟩
  have fin : ∀ {O2 : List Nat} {Hd' σ' H' v}, SR K ⟨H, Hd, [(0, wa)]⟩ O2 ρ' Hd' σ' H' → Rp K Hd' v dz → Q v H' := fun {O2 Hd' σ' H' v} T rv => by
    obtain ⟨p1, p2, dd, p3⟩ := T.io (0, wa) (List.mem_singleton.mpr rfl)
    obtain ⟨v0, k1, _, k3⟩ := T.val 0 dw (var_at h3)
    obtain ⟨a, rfl, na, wo, _⟩ := k3 p1
    rw [p2] at k1
    cases k1
    refine q v Hd' H' T.dat T.sub (fun b o hb h => T.frm b o h fun i hi => ?_) (fun p o h z => T.new p o h z) wo rv
    have := List.mem_singleton.mp hi
    cases this
    exact hb rfl
  cases fl with
  | ret d =>
    cases h2
    exact fun Hd' σ' H' v T _ rv => fin T rv
  | nx =>
    cases h2
    exact fun Hd' σ' H' T _ => fin T .non
  | brk => cases h2
  | cont => cases h2
end
end PL

set_option Elab.async false
set_option linter.all false
set_option maxRecDepth 100000
namespace PL
open PySem PySem.Spec PyProof.Rows L2 PySem.W

/-! ### comprehensions of two loops -/
def lc2F (bnd : D → Env → Option Env) (tt : Env → Option Bool) (it1 : Env → Option (List D)) (vs1 : List Nat) (bnd1 : D → Env → Option Env) (tt1 : Env → Option Bool) (te : Env → Option D) (ρ : Env) : List D → Option (List D)
  | [] => some []
  | d :: ds => (bnd d ρ).bind fun ρ1 => (tt ρ1).bind fun b => if b then (it1 ρ1).bind fun es => (lcF bnd1 tt1 te (wipeE ρ1 vs1) es).bind fun ys => (lc2F bnd tt it1 vs1 bnd1 tt1 te ρ ds).bind fun zs => some (ys ++ zs) else lc2F bnd tt it1 vs1 bnd1 tt1 te ρ ds
def szD (ys : List D) : Option D := if ys.length ≤ 16777216 then some (.list ys) else none
def lc2 (it : Env → Option (List D)) (vs : List Nat) (bnd : D → Env → Option Env) (tt : Env → Option Bool) (it1 : Env → Option (List D)) (vs1 : List Nat) (bnd1 : D → Env → Option Env) (tt1 : Env → Option Bool) (te : Env → Option D) : Env → Option D := fun ρ => (it ρ).bind fun ds => (lc2F bnd tt it1 vs1 bnd1 tt1 te (wipeE ρ vs) ds).bind szD
section
variable {K : PySem.W.Frag} {X : Cx} {O vs vs1 : List Nat} {per : Bool} {g g1 : TG} {bnd bnd1 : D → Env → Option Env} {ft ft1 : Env → Option Bool} {f : Env → Option D} {it it1 : Env → Option (List D)} {fte : Env → Option (Bool × Env)} {fe : Env → Option (D × Env)} {ite : Env → Option (List D × Env)}
/-- what may be changed is not bound -/
def BndK (O : List Nat) (bnd : D → Env → Option Env) : Prop := ∀ d ρ ρ1, bnd d ρ = some ρ1 → ∀ i ∈ O, ρ1[i]? = ρ[i]?
theorem bndK_name {j : Nat} (hO : j ∉ O) : BndK O (bN j) := fun d ρ ρ1 h i hi => by
  cases h
  exact List.getElem?_set_ne fun z => by
    subst z
    exact hO hi
theorem setAll_get {i : Nat} : ∀ {js : List Nat} {ds : List D} {ρ : Env}, i ∉ js → (setAll js ds ρ)[i]? = ρ[i]?
  | [], _, _, _ => rfl
  | j :: js, [], _, _ => rfl
  | j :: js, d :: ds, ρ, h => by
    have n1 : j ≠ i := fun z => h (z ▸ List.mem_cons_self)
    show (setAll js ds (ρ.set j (some d)))[i]? = _
    rw [setAll_get fun z => h (.tail _ z), List.getElem?_set_ne n1]
theorem bndK_tup {js : List Nat} (hO : ∀ j ∈ js, j ∉ O) : BndK O (bT js) := fun d ρ ρ1 h i hi => by
  unfold bT at h
  split at h
  · split at h
    · cases h
      exact setAll_get fun z => hO i z hi
    · cases h
  · split at h
    · cases h
      exact setAll_get fun z => hO i z hi
    · cases h
  · cases h
/-- growth but for what stands at D0 -/
theorem Gr.put {Hd H Hd' H' : Hp} {D0 : Addr} {a b : HO} (x : Gr Hd (upd H D0 a) Hd' H') (n : Hd' D0 = none) : Gr Hd (upd H D0 b) Hd' (upd H' D0 b) := by
  refine ⟨x.d, fun p o e => ?_, fun p o e => ?_, fun p o e z => ?_⟩
  · by_cases hp : p = D0
    · subst hp
      rw [upd_same] at e ⊢
      exact e
    · rw [upd_ne hp] at e ⊢
      exact x.h p o (by rw [upd_ne hp]; exact e)
  · rw [upd_ne (ne_of_none e n)]
    exact x.s p o e
  · have y := x.n p o e z
    have hp : p ≠ D0 := ne_of_none e n
    rw [upd_ne hp] at y ⊢
    exact y
theorem Gr.over {Hd0 H0 Hd H Hd' H' : Hp} {D0 : Addr} {a : HO} (g : Gr Hd0 H0 Hd H) (h0 : H0 D0 = none) (x : Gr Hd (upd H D0 a) Hd' H') (n : Hd' D0 = none) : Gr Hd0 H0 Hd' H' := by
  refine ⟨g.d.trans x.d, fun p o e => ?_, x.s, fun p o e z => ?_⟩
  · exact x.h p o (by rw [upd_ne (ne_of_none e h0)]; exact g.h p o e)
  · cases q : Hd p with
    | some u => exact g.n p u q z
    | none =>
      have y := x.n p o e q
      rw [upd_ne (ne_of_none e n)] at y
      exact Evl.fresh_back g.h y
theorem upd_self {H : Hp} {a : Addr} {o : HO} (h : H a = some o) : upd H a o = H := by
  funext p
  by_cases hp : p = a
  · subst hp
    rw [upd_same, h]
  · rw [upd_ne hp]
theorem t_lc2 (hv : ∀ j ∈ vs, j ∉ O) (hv1 : ∀ j ∈ vs1, j ∉ O) (hg : BndOk K O g bnd vs) (hg1 : BndOk K O g1 bnd1 vs1) (hgk : BndK O bnd) : ∀ σ H Q, tP K .fre O (lc2 it vs bnd ft it1 vs1 bnd1 ft1 f) σ H Q → tLc2 (tI K per O it) g (tPT K O ft) (tI K true O it1) g1 (tPT K O ft1) (tP K .dat O f) vs vs1 σ H Q := fun σ H Q ⟨fc, ρ, Hd, z, S, hf, q⟩ => by
  unfold lc2 at hf
  obtain ⟨ds, h1, hf⟩ := bind_some hf
  obtain ⟨ys, h2, hf⟩ := bind_some hf
  unfold szD at hf
  split at hf
  case isFalse => cases hf
  rename_i hysz
  cases hf
  have hysl : ys.length ≤ sizeLine := by rw [sizeLine_eq]; exact hysz
  refine ⟨fc, ρ, Hd, ds, S, h1, fun J Hd1 H1 gr1 hJ hz => fun D0 hD => ?_⟩
  have nD : Hd1 D0 = none := Evl.fresh_back gr1.s hD
  have gD : Gr Hd1 H1 Hd1 (upd H1 D0 (.lst [])) := Gr.own gr1.s hD
  have S1 := S.grow gr1
  have fD : fc.H0 D0 = none := S1.fresh hD
  -- between the turns of the outer loop
  let OW : Nat → Hp → Prop := fun i H => ∃ Hd, Gr Hd1 H1 Hd H ∧ Hd D0 = none ∧ ∃ av ad rest, H D0 = some (.lst av) ∧ Rps K Hd av ad ∧ lc2F bnd ft it1 vs1 bnd1 ft1 f (wipeE ρ vs) (ds.drop i) = some rest ∧ ad ++ rest = ys
  refine ⟨fun i m H => m = ds.length - i ∧ i ≤ ds.length ∧ OW i H, ⟨ds.length, by simp, Nat.zero_le _, ⟨Hd1, gD, nD, [], [], ys, upd_same, .nil, by rw [List.drop_zero]; exact h2, rfl⟩⟩, ?_⟩
  rintro i m H2 ⟨rfl, hi, ⟨Hd2, g2, n2, av, ad, rest, hav, rav, hrest, hys⟩⟩
  have itm := hJ i Hd2 H2 g2.d g2.s fun _ => g2.h
  by_cases hlt : i < ds.length
  · have hd : ds[i]? = some ds[i] := List.getElem?_eq_getElem hlt
    obtain ⟨go, step⟩ := itm.1 _ hd
    refine .inr ⟨go, fun H' => i + 1 ≤ ds.length ∧ OW (i + 1) H', fun H' ⟨a1, a2⟩ => ⟨ds.length - (i + 1), by omega, rfl, a1, a2⟩, fun x H3 hy => ?_⟩
    obtain ⟨Hd3, g3, rx⟩ := step x H3 hy
    rw [List.drop_eq_getElem_cons hlt] at hrest
    unfold lc2F at hrest
    obtain ⟨ρ1, hb, hrest⟩ := bind_some hrest
    obtain ⟨b, ht, hrest⟩ := bind_some hrest
    have S3 : SR K fc O (wipeE ρ vs) Hd3 (L2.wipe σ vs) H3 := ((S1.grow g2).grow g3).wipe vs hv
    refine hg fc _ Hd3 _ H3 x ds[i] ρ1 _ S3 rx hb fun σ4 S4 ew => ⟨by rw [ew]; exact t_lc.wipe_wipe, ?_⟩
    refine ⟨fc, ρ1, Hd3, b, S4, ht, fun Hd5 H5 g5 => ?_⟩
    have keepD : ∀ {Hd' H'}, Gr Hd2 H2 Hd' H' → Hd' D0 = none ∧ H' D0 = some (.lst av) := fun {Hd' H'} g => by
      refine ⟨?_, g.h _ _ hav⟩
      cases e : Hd' D0 with
      | none => rfl
      | some o => rw [g.n D0 o e n2] at hav; cases hav
    have n5 := (keepD (g3.trans g5)).1
    cases b with
    | true =>
      obtain ⟨es, hes, hrest⟩ := bind_some hrest
      obtain ⟨ws, hws, hrest⟩ := bind_some hrest
      obtain ⟨rs, hrs, hrest⟩ := bind_some hrest
      cases hrest
      show tI K true O it1 σ4 H5 _
      refine ⟨fc, ρ1, Hd5, es, S4.grow g5, hes, fun J1 Hd6 H6 g6 hJ1 hz1 => ?_⟩
      have g26 := (g3.trans g5).trans g6
      obtain ⟨n6, h6⟩ := keepD g26
      have S6 : SR K fc O ρ1 Hd6 σ4 H6 := (S4.grow g5).grow g6
      have g16 := g2.trans g26
      have oD : ∀ i ∈ O, ∀ d, ρ1[i]? = some (some d) → σ4[i]? ≠ some (some (.ref D0)) := fun i hi d hd e => by
        have nv : i ∉ vs := fun z => hv i z hi
        rw [hgk _ _ _ hb i hi] at hd
        have e4 : (L2.wipe σ4 vs)[i]? = (L2.wipe (L2.wipe σ vs) vs)[i]? := by rw [ew]
        rw [wipe_get nv, wipe_get nv, wipe_get nv] at e4
        rw [e4] at e
        exact S1.notIn hD i hi d (wipeE_get hd) e
      let IW : Nat → Hp → Prop := fun j H => ∃ Hd av' ad' rest', Gr Hd6 (upd H6 D0 (.lst av')) Hd H ∧ Hd D0 = none ∧ Rps K Hd av' ad' ∧ lcF bnd1 ft1 f (wipeE ρ1 vs1) (es.drop j) = some rest' ∧ (ad' ++ rest') ++ rs = ys
      have out : ∀ {H'}, IW es.length H' → i + 1 ≤ ds.length ∧ OW (i + 1) H' := fun {H'} ⟨Hd', av', ad', rest', gr, nn, ra, hl, he⟩ => by
        rw [List.drop_length] at hl
        cases hl
        rw [List.append_nil] at he
        exact ⟨hlt, Hd', g16.over hD gr nn, nn, av', ad', rs, gr.h _ _ upd_same, ra, hrs, he⟩
      refine ⟨fun j k H => k = es.length - j ∧ j ≤ es.length ∧ IW j H, ⟨es.length, by simp, Nat.zero_le _, Hd6, av, ad, ws, ?_, n6, rav.mono g26.d, by rw [List.drop_zero]; exact hws, ?_⟩, ?_⟩
      · rw [upd_self h6]
        exact Gr.refl g6.s
      · rw [List.append_assoc]
        exact hys
      rintro j k H7 ⟨rfl, hj, ⟨Hd7, av7, ad7, rest7, g7, n7, r7, l7, e7⟩⟩
      have itm1 := hJ1 j Hd7 H7 g7.d g7.s fun h => nomatch h
      by_cases hlt1 : j < es.length
      · have hd1 : es[j]? = some es[j] := List.getElem?_eq_getElem hlt1
        obtain ⟨go1, step1⟩ := itm1.1 _ hd1
        refine .inr ⟨go1, fun H' => j + 1 ≤ es.length ∧ IW (j + 1) H', fun H' ⟨a1, a2⟩ => ⟨es.length - (j + 1), by omega, rfl, a1, a2⟩, fun x1 H8 hy1 => ?_⟩
        obtain ⟨Hd8, g8, rx1⟩ := step1 x1 H8 hy1
        rw [List.drop_eq_getElem_cons hlt1] at l7
        unfold lcF at l7
        obtain ⟨ρ3, hb1, l7⟩ := bind_some l7
        obtain ⟨b1, ht1, l7⟩ := bind_some l7
        have S7 : SR K fc O ρ1 Hd7 σ4 H7 := (S6.aside (o := .lst av7) fD n6 oD).grow g7
        have S8 : SR K fc O (wipeE ρ1 vs1) Hd8 (L2.wipe σ4 vs1) H8 := (S7.grow g8).wipe vs1 hv1
        refine hg1 fc _ Hd8 _ H8 x1 es[j] ρ3 _ S8 rx1 hb1 fun σ9 S9 ew1 => ⟨by rw [ew1]; exact t_lc.wipe_wipe, ?_⟩
        refine ⟨fc, ρ3, Hd8, b1, S9, ht1, fun Hd10 H10 g10 => ?_⟩
        have h7 : H7 D0 = some (.lst av7) := g7.h _ _ upd_same
        have keep7 : ∀ {Hd' H'}, Gr Hd7 H7 Hd' H' → Hd' D0 = none ∧ H' D0 = some (.lst av7) := fun {Hd' H'} g => by
          refine ⟨?_, g.h _ _ h7⟩
          cases e : Hd' D0 with
          | none => rfl
          | some o => rw [g.n D0 o e n7] at h7; cases h7
        cases b1 with
        | true =>
          obtain ⟨y, hy2, l7⟩ := bind_some l7
          obtain ⟨us, hu, l7⟩ := bind_some l7
          cases l7
          refine ⟨fc, ρ3, Hd10, y, S9.grow g10, hy2, fun v Hd11 H11 g11 rv => ?_⟩
          have g711 := (g8.trans g10).trans g11
          obtain ⟨n11, h11⟩ := keep7 g711
          refine ⟨av7, h11, ?_, hlt1, Hd11, av7 ++ [v], ad7 ++ [y], us, (g7.trans g711).put n11, n11, (r7.mono g711.d).append (Rps.one rv), hu, by rw [← e7]; simp [List.append_assoc]⟩
          have : ys.length = ad7.length + (us.length + 1) + rs.length := by rw [← e7]; simp; omega
          have := r7.length
          omega
        | false =>
          have g710 := g8.trans g10
          exact ⟨hlt1, Hd10, av7, ad7, rest7, g7.trans g710, (keep7 g710).1, r7.mono g710.d, l7, e7⟩
      · have e : j = es.length := by omega
        subst e
        exact .inl ⟨itm1.2 rfl, out ⟨Hd7, av7, ad7, rest7, g7, n7, r7, l7, e7⟩⟩
    | false =>
      have g25 := g3.trans g5
      exact ⟨hlt, Hd5, g2.trans g25, n5, av, ad, rest, g25.h _ _ hav, rav.mono g25.d, hrest, hys⟩
  · have e : i = ds.length := by omega
    subst e
    rw [List.drop_length] at hrest
    cases hrest
    rw [List.append_nil] at hys
    subst hys
    exact .inl ⟨itm.2 rfl, q _ Hd2 H2 (gr1.trans g2) ⟨D0, rfl, Evl.fresh_back gr1.h hD, n2, .lst hav rav (by rw [rav.length]; exact hysl)⟩⟩
/-! ### the forms one uses -/
theorem outs {ws : List Nat} (h : (ws.all fun j => !O.contains j) = true) : ∀ j ∈ ws, j ∉ O := fun j hj hO => by
  have := List.all_eq_true.mp h j hj
  rw [List.contains_iff_mem.mpr hO] at this
  cases this
variable {elt tg iter tg1 iter1 : Expr} {ifs ifs1 : List Expr} {scope : Scope} {own : List (Str × Nat)} {pos spos : Pos} {I L : List Nat} {y : Str} {py : Pos} {i : Nat}
theorem p_lc (hc : X.calm = true) (hN : X.N.Nodup) (ok : BlkOk X.N X.env.scope scope own) (hi : PI X tg iter (tI X.K per O it)) 
    (hg : ∀ (s : Shared) (H : Hp) (C : Addr) (cl : List (Str × Addr)) (fp : List Addr), PG (X.blk s H scope (compEnvC scope cl C X.env) fp) tg g) (hb : BndOk X.K O g bnd (own.map (·.2)))
    (ht : ∀ (s : Shared) (H : Hp) (C : Addr) (cl : List (Str × Addr)) (fp : List Addr), PTs (X.blk s H scope (compEnvC scope cl C X.env) fp) ifs (tPT X.K O ft))
    (he : ∀ (s : Shared) (H : Hp) (C : Addr) (cl : List (Str × Addr)) (fp : List Addr), PE (X.blk s H scope (compEnvC scope cl C X.env) fp) elt (tP X.K .dat O f)) (hv : ((own.map (·.2)).all fun j => !O.contains j) = true := by rfl)
    (hs : ∀ x, foldedSetIterable iter X.env x = pure x := by intro _; rfl) : PE X (.ListComp elt [⟨tg, iter, ifs, 0⟩] scope pos) (tP X.K .fre O (lc it (own.map (·.2)) bnd ft f)) :=
  PE.imp (pe_lc hc hN hi ok hg ht he hs) (t_lc (outs hv) hb)
theorem p_lcE (hc : X.calm = true) (hN : X.N.Nodup) (ok : BlkOk X.N X.env.scope scope own) (hi : PI X tg iter (tIE X.K O ite)) 
    (hg : ∀ (s : Shared) (H : Hp) (C : Addr) (cl : List (Str × Addr)) (fp : List Addr), PG (X.blk s H scope (compEnvC scope cl C X.env) fp) tg g) (hb : BndOk X.K O g bnd (own.map (·.2)))
    (ht : ∀ (s : Shared) (H : Hp) (C : Addr) (cl : List (Str × Addr)) (fp : List Addr), PTs (X.blk s H scope (compEnvC scope cl C X.env) fp) ifs (tET X.K O fte))
    (he : ∀ (s : Shared) (H : Hp) (C : Addr) (cl : List (Str × Addr)) (fp : List Addr), PE (X.blk s H scope (compEnvC scope cl C X.env) fp) elt (tE X.K O fe)) (hv : ((own.map (·.2)).all fun j => !O.contains j) = true := by rfl)
    (hs : ∀ x, foldedSetIterable iter X.env x = pure x := by intro _; rfl) : PE X (.ListComp elt [⟨tg, iter, ifs, 0⟩] scope pos) (tE X.K O (lcE ite (own.map (·.2)) bnd fte fe)) :=
  PE.imp (pe_lc hc hN hi ok hg ht he hs) (t_lcE (outs hv) hb)
theorem p_lc2 (hc : X.calm = true) (hN : X.N.Nodup) (ok : BlkOk X.N X.env.scope scope own) (hi : PI X tg iter (tI X.K per O it)) 
    (hg : ∀ (s : Shared) (H : Hp) (C : Addr) (cl : List (Str × Addr)) (fp : List Addr), PG (X.blk s H scope (compEnvC scope cl C X.env) fp) tg g) (hb : BndOk X.K O g bnd (own.map (·.2))) (hk : BndK O bnd)
    (ht : ∀ (s : Shared) (H : Hp) (C : Addr) (cl : List (Str × Addr)) (fp : List Addr), PTs (X.blk s H scope (compEnvC scope cl C X.env) fp) ifs (tPT X.K O ft))
    (hi1 : ∀ (s : Shared) (H : Hp) (C : Addr) (cl : List (Str × Addr)) (fp : List Addr), PI (X.blk s H scope (compEnvC scope cl C X.env) fp) tg1 iter1 (tI X.K true O it1))
    (hg1 : ∀ (s : Shared) (H : Hp) (C : Addr) (cl : List (Str × Addr)) (fp : List Addr), PG (X.blk s H scope (compEnvC scope cl C X.env) fp) tg1 g1) (hb1 : BndOk X.K O g1 bnd1 vs1)
    (ht1 : ∀ (s : Shared) (H : Hp) (C : Addr) (cl : List (Str × Addr)) (fp : List Addr), PTs (X.blk s H scope (compEnvC scope cl C X.env) fp) ifs1 (tPT X.K O ft1))
    (he : ∀ (s : Shared) (H : Hp) (C : Addr) (cl : List (Str × Addr)) (fp : List Addr), PE (X.blk s H scope (compEnvC scope cl C X.env) fp) elt (tP X.K .dat O f)) (hv1 : ∀ i ∈ vs1, i ∈ own.map (·.2)) (hv : ((own.map (·.2)).all fun j => !O.contains j) = true := by rfl)
    (hs : ∀ x, foldedSetIterable iter X.env x = pure x := by intro _; rfl) (hs1 : ∀ env x, foldedSetIterable iter1 env x = pure x := by intro _ _; rfl) :
    PE X (.ListComp elt [⟨tg, iter, ifs, 0⟩, ⟨tg1, iter1, ifs1, 0⟩] scope pos) (tP X.K .fre O (lc2 it (own.map (·.2)) bnd ft it1 vs1 bnd1 ft1 f)) :=
  PE.imp (pe_lc2 hc hN hi ok hv1 hg ht hi1 hg1 ht1 he hs hs1) (t_lc2 (outs hv) (fun j hj => outs hv j (hv1 j hj)) hb hb1 hk)
/-- y = [..], y a plain local: data, or its own -/
theorem s_lc (hc : X.calm = true) (hN : X.N.Nodup) (hy : X.N[i]? = some y) (hyl : X.env.scope.names.lookup y = some .local)
    (hsw : swapsWith (.ListComp elt [⟨tg, iter, ifs, 0⟩] scope pos) (some (.Name y py)) spos.line X.env = pure true) (ok : BlkOk X.N X.env.scope scope own) (hi : PI X tg iter (tI X.K per O it)) 
    (hg : ∀ (s : Shared) (H : Hp) (C : Addr) (cl : List (Str × Addr)) (fp : List Addr), PG (X.blk s H scope (compEnvC scope cl C X.env) fp) tg g) (hb : BndOk X.K O g bnd (own.map (·.2)))
    (ht : ∀ (s : Shared) (H : Hp) (C : Addr) (cl : List (Str × Addr)) (fp : List Addr), PTs (X.blk s H scope (compEnvC scope cl C X.env) fp) ifs (tPT X.K O ft))
    (he : ∀ (s : Shared) (H : Hp) (C : Addr) (cl : List (Str × Addr)) (fp : List Addr), PE (X.blk s H scope (compEnvC scope cl C X.env) fp) elt (tP X.K .dat O f)) (hj : O.contains i = false := by rfl) (hv : ((own.map (·.2)).all fun j => !O.contains j) = true := by rfl)
    (hs : ∀ x, foldedSetIterable iter X.env x = pure x := by intro _; rfl) : PS X (.Assign [.Name y py] (.ListComp elt [⟨tg, iter, ifs, 0⟩] scope pos) spos) (tS X.K I L O (i :: O) (asgS i (lc it (own.map (·.2)) bnd ft f))) :=
  s_own (ps_setLc hc hN hy hyl hsw hi ok hg ht he hs) (t_lc (outs hv) hb) hj
theorem s_lcE (hc : X.calm = true) (hN : X.N.Nodup) (hy : X.N[i]? = some y) (hyl : X.env.scope.names.lookup y = some .local)
    (hsw : swapsWith (.ListComp elt [⟨tg, iter, ifs, 0⟩] scope pos) (some (.Name y py)) spos.line X.env = pure true) (ok : BlkOk X.N X.env.scope scope own) (hi : PI X tg iter (tIE X.K O ite)) 
    (hg : ∀ (s : Shared) (H : Hp) (C : Addr) (cl : List (Str × Addr)) (fp : List Addr), PG (X.blk s H scope (compEnvC scope cl C X.env) fp) tg g) (hb : BndOk X.K O g bnd (own.map (·.2)))
    (ht : ∀ (s : Shared) (H : Hp) (C : Addr) (cl : List (Str × Addr)) (fp : List Addr), PTs (X.blk s H scope (compEnvC scope cl C X.env) fp) ifs (tET X.K O fte))
    (he : ∀ (s : Shared) (H : Hp) (C : Addr) (cl : List (Str × Addr)) (fp : List Addr), PE (X.blk s H scope (compEnvC scope cl C X.env) fp) elt (tE X.K O fe)) (hj : O.contains i = false := by rfl) (hv : ((own.map (·.2)).all fun j => !O.contains j) = true := by rfl)
    (hs : ∀ x, foldedSetIterable iter X.env x = pure x := by intro _; rfl) : PS X (.Assign [.Name y py] (.ListComp elt [⟨tg, iter, ifs, 0⟩] scope pos) spos) (tS X.K I L O O (asgE i (lcE ite (own.map (·.2)) bnd fte fe))) :=
  s_asgE (ps_setLc hc hN hy hyl hsw hi ok hg ht he hs) (t_lcE (outs hv) hb) hj
theorem s_lc2 (hc : X.calm = true) (hN : X.N.Nodup) (hy : X.N[i]? = some y) (hyl : X.env.scope.names.lookup y = some .local)
    (hsw : swapsWith (.ListComp elt [⟨tg, iter, ifs, 0⟩, ⟨tg1, iter1, ifs1, 0⟩] scope pos) (some (.Name y py)) spos.line X.env = pure true) (ok : BlkOk X.N X.env.scope scope own) (hi : PI X tg iter (tI X.K per O it)) 
    (hg : ∀ (s : Shared) (H : Hp) (C : Addr) (cl : List (Str × Addr)) (fp : List Addr), PG (X.blk s H scope (compEnvC scope cl C X.env) fp) tg g) (hb : BndOk X.K O g bnd (own.map (·.2))) (hk : BndK O bnd)
    (ht : ∀ (s : Shared) (H : Hp) (C : Addr) (cl : List (Str × Addr)) (fp : List Addr), PTs (X.blk s H scope (compEnvC scope cl C X.env) fp) ifs (tPT X.K O ft))
    (hi1 : ∀ (s : Shared) (H : Hp) (C : Addr) (cl : List (Str × Addr)) (fp : List Addr), PI (X.blk s H scope (compEnvC scope cl C X.env) fp) tg1 iter1 (tI X.K true O it1))
    (hg1 : ∀ (s : Shared) (H : Hp) (C : Addr) (cl : List (Str × Addr)) (fp : List Addr), PG (X.blk s H scope (compEnvC scope cl C X.env) fp) tg1 g1) (hb1 : BndOk X.K O g1 bnd1 vs1)
    (ht1 : ∀ (s : Shared) (H : Hp) (C : Addr) (cl : List (Str × Addr)) (fp : List Addr), PTs (X.blk s H scope (compEnvC scope cl C X.env) fp) ifs1 (tPT X.K O ft1))
    (he : ∀ (s : Shared) (H : Hp) (C : Addr) (cl : List (Str × Addr)) (fp : List Addr), PE (X.blk s H scope (compEnvC scope cl C X.env) fp) elt (tP X.K .dat O f)) (hv1 : ∀ i ∈ vs1, i ∈ own.map (·.2)) (hj : O.contains i = false := by rfl) (hv : ((own.map (·.2)).all fun j => !O.contains j) = true := by rfl)
    (hs : ∀ x, foldedSetIterable iter X.env x = pure x := by intro _; rfl) (hs1 : ∀ env x, foldedSetIterable iter1 env x = pure x := by intro _ _; rfl) :
    PS X (.Assign [.Name y py] (.ListComp elt [⟨tg, iter, ifs, 0⟩, ⟨tg1, iter1, ifs1, 0⟩] scope pos) spos) (tS X.K I L O (i :: O) (asgS i (lc2 it (own.map (·.2)) bnd ft it1 vs1 bnd1 ft1 f))) :=
  s_own (ps_setLc2 hc hN hy hyl hsw hi ok hv1 hg ht hi1 hg1 ht1 he hs hs1) (t_lc2 (outs hv) (fun j hj => outs hv j (hv1 j hj)) hb hb1 hk) hj
end
end PL

set_option Elab.async false
set_option linter.all false
set_option maxRecDepth 100000
namespace PL
open PySem PySem.Spec PyProof.Rows L2 PySem.W

/-! ### d[k] -/
section
variable {X : Cx} {K : PySem.W.Frag} {Hd H : Hp}
def rIxD (K : PySem.W.Frag) : R2 := fun x y H Q => ∃ a v, x = .ref a ∧ DG H a y (some v) ∧ Q v H
theorem dg_typeIs {X : Cx} {pins : List (Addr × Obj)} {σ : L2.St} {s : Shared} {a : Addr} {y : V} {o : Option V} (I : L2.Inv X pins σ H s) (g : DG H a y o) : s.TypeIs (.ref a) "dict" := by
  rcases g with g | ⟨e, _, _⟩ | ⟨e, _, _⟩ | ⟨kvs, _, _, e, _⟩
  · exact dict_typeIs I g
  · obtain ⟨_, _, _, _, dd⟩ := dk_rd I.hok e
    exact dd.typeIs
  · obtain ⟨_, _, _, _, dd⟩ := dt_rd I.hok e
    exact dd.typeIs
  · obtain ⟨_, _, _, _, dd⟩ := dt_rd I.hok e
    exact dd.typeIs
theorem g_getItem {X : Cx} {pins : List (Addr × Obj)} {σ : L2.St} {s : Shared} {a : Addr} {y v : V} {u : Value} {A : Around} {E Q : Value → Shared → Prop} (hu : A.units + 1 < cLine) (I : L2.Inv X pins σ H s) (g : DG H a y (some v)) (ry : RelV y u)
    (h : ∀ w' s', L2.Inv X pins σ H s' → RelV v w' → Q w' s') : wpAny (model X.prog X.w) A (getItem (.ref a) u) Q E s := by
  rcases g with g | ⟨_, _, e⟩ | ⟨_, _, e⟩ | ⟨kvs, b, k, e, rfl, eb, l⟩
  · exact d_getItem hu I g ry h
  · cases e
  · cases e
  · cases (show u = Value.ref b from ry)
    obtain ⟨_, _, xs, rel, dd⟩ := dt_rd I.hok e
    obtain ⟨w', hw, rw'⟩ := RelO.some_of (v := v) (o := (atKey xs k).map (·.2)) (l ▸ rel.val k)
    obtain ⟨p, hp, rfl⟩ := Option.map_eq_some_iff.mp hw
    exact wpAny_getItem_heap (tupleKind_room_in1 hu) (ka_of I.hok eb) dd hp (h _ _ (I.tok _) rw')
theorem ix_dict (hu : X.A.units + 1 < cLine) : IxR X (rIxD X.K) := by
  intro value slice pins s σ H x y v u Q I rx ry h hs
  obtain ⟨a, w, rfl, g, q⟩ := h
  cases rx
  have hT := dg_typeIs I g
  unfold subscriptTail
  refine wpAny_bind ?_
  rw [getitemInPython_of_ne hT.not_modules]
  refine wpAny_bind (wpAny_specialOf hT PySem.F.slot_dict_getitem.lookup ?_)
  have fin : wpAny (model X.prog X.w) X.A (subscripted slice false (.ref a) u) (fun r s₃ => wpAny (model X.prog X.w) X.A (letTemporaryGo value (.ref a) r >>= fun _ => pure r) (EP X pins σ Q) X.xe s₃) X.xe s := by
    rw [hs]
    refine wpAny_operating (g_getItem hu I g ry fun w' s3 I3 rw' => wpAny_bind (wpAny_letTemporaryGo (wpAny_pure ⟨w, H, I3, rw', q⟩)))
  first
    | exact wpAny_pure (wpAny_bind fin)
    | exact wpAny_bind (wpAny_pure (wpAny_bind fin))
    | exact wpAny_bind fin
/-- the script, a kt -/
def ixSK (kvs : List (D × D)) (e : D) : Option D := match kvs with
  | [(.none, .tuple xs)] => ixD (.dict [(.none, .tuple xs)]) e
  | kvs => ixSD (.dict kvs) e
/-- anything that may be subscripted -/
def ixA (d e : D) : Option D := match d with
  | .dict kvs => if keyOk kvs (keyN e) then dgetD kvs (keyN e) else ixSK kvs e
  | d => ixD d e
def rIxA (K : PySem.W.Frag) : R2 := fun x y H Q => rIx2 K x y H Q ∨ rIxSc K x y H Q ∨ rIxD K x y H Q
theorem ix_A (hu : X.A.units + 64 < cLine) : IxR X (rIxA X.K) := ix_2.or (ix_sc.or (ix_dict (by omega)))
theorem ok_ixA : Op2 K (rIxA K) ixA .dat := fun Hd H x y d e z Q eh tx ty hk q => by
  unfold ixA at hk
  split at hk
  · split at hk
    · rename_i kvs ok
      obtain ⟨a, r, rfl, g, c⟩ := look_rel eh tx ty ok
      rcases c with ⟨_, c⟩ | ⟨w, d, rfl, c, rw⟩
      · rw [c] at hk; cases hk
      · rw [c] at hk
        cases hk
        exact .inr (.inr ⟨a, w, rfl, g, q w Hd H (Gr.refl eh) rw⟩)
    · unfold ixSK at hk
      split at hk
      · exact .inl (ok_ix Hd H x y _ e z Q eh tx ty hk q)
      · exact .inr (.inl (ok_ixSc Hd H x y _ e z Q eh tx ty hk q))
  · exact .inl (ok_ix Hd H x y d e z Q eh tx ty hk q)
/-! d.get(k), d.get(k, x) -/
variable {o e f : Expr} {apos cpos : Pos} {O : List Nat} {fo fk fx : Env → Option D}
def get1 (d k : D) : Option D := match d with
  | .dict kvs => if keyOk kvs (keyN k) then some ((dgetD kvs (keyN k)).getD .none) else none
  | _ => none
def get2 (d k x : D) : Option D := match d with
  | .dict kvs => if keyOk kvs (keyN k) then some ((dgetD kvs (keyN k)).getD x) else none
  | _ => none
def op3 (g : D → D → D → Option D) (a b c : Env → Option D) : Env → Option D := fun ρ => (a ρ).bind fun x => (b ρ).bind fun y => (c ρ).bind fun z => g x y z
theorem get1_inv {d k z : D} (h : get1 d k = some z) : ∃ kvs, d = .dict kvs ∧ keyOk kvs (keyN k) = true ∧ z = (dgetD kvs (keyN k)).getD .none := by
  unfold get1 at h
  split at h
  · split at h
    · cases h
      exact ⟨_, rfl, by assumption, rfl⟩
    · cases h
  · cases h
theorem get2_inv {d k x z : D} (h : get2 d k x = some z) : ∃ kvs, d = .dict kvs ∧ keyOk kvs (keyN k) = true ∧ z = (dgetD kvs (keyN k)).getD x := by
  unfold get2 at h
  split at h
  · split at h
    · cases h
      exact ⟨_, rfl, by assumption, rfl⟩
    · cases h
  · cases h
theorem isD_of {v : V} {kvs : List (D × D)} {k : D} (t : Tp K Hd H v (.dict kvs)) (ok : keyOk kvs k = true) : ∃ a, v = .ref a ∧ IsD H a := by
  cases t with
  | @kt a xs ds h1 h2 hz =>
    exfalso
    unfold keyOk at ok
    simp [isKey, isKeys] at ok
  | @scr a ns h1 =>
    exfalso
    unfold keyOk at ok
    simp [isKey, isKeys] at ok
  | @dK a ws ds h1 h2 => exact ⟨a, rfl, .inl ⟨_, h1⟩⟩
  | @dT a ws ds h1 h2 => exact ⟨a, rfl, .inr ⟨_, h1⟩⟩
theorem p_get1 (hu : X.A.units + 64 < cLine) (ho : PE X o (tP X.K .bor O fo)) (he : PE X e (tP X.K .bor O fk)) (m : M1 X o "get" apos e cpos) : PE X (.Call (.Attribute o "get" apos) [e] [] cpos) (tP X.K .dat O (op2 get1 fo fk)) := by
  refine ⟨fun pins s σ H Q I ⟨fc, ρ, Hd, z, S, hf, q⟩ => ?_⟩
  unfold op2 at hf
  obtain ⟨d, h1, hf⟩ := bind_some hf
  obtain ⟨k, h2, hf⟩ := bind_some hf
  obtain ⟨kvs, rfl, ok, rfl⟩ := get1_inv hf
  refine wpAny_Call_method m.base m.few m.line PySem.F.plainAttrs_dict PySem.F.slot_dict_get PySem.F.type_dict_get (thn (ho.run pins s σ H (fun v H1 => ∃ Hd1, Gr Hd H Hd1 H1 ∧ Tp X.K Hd1 H1 v (.dict kvs)) I ⟨fc, ρ, Hd, _, S, h1, fun v Hd' H' g r => ⟨Hd', g, r⟩⟩) fun u s1 ⟨x, H1, I1, rx, Hd1, g1, tx⟩ => ?_)
  obtain ⟨a, rfl, isd⟩ := isD_of tx ok
  obtain rfl : u = Value.ref a := rx
  obtain ⟨t1, t2, _⟩ := isD_at I1 isd
  refine ⟨t1, t2, ?_⟩
  rw [m.trees]
  refine Calls.callWith_builtin rfl (Calls.evalArgs_plain (Calls.spliced_cons (thn (he.run pins s1 σ H1 (fun v H2 => ∃ Hd2, Gr Hd1 H1 Hd2 H2 ∧ Tp X.K Hd2 H2 v k) I1 ⟨fc, ρ, Hd1, _, S.grow g1, h2, fun v Hd' H' g r => ⟨Hd', g, r⟩⟩) fun iv s2 ⟨y, H2, I2, ry, Hd2, g2, ty⟩ => Calls.spliced_nil ?_)))
  obtain ⟨a', r, ea, dg, c⟩ := look_rel g2.s (Tp.mono g2.d g2.h tx) ty ok
  cases ea
  refine g_get1 (by omega) I2 dg ry fun w' s3 I3 rw' => ?_
  rcases c with ⟨rfl, c⟩ | ⟨w, d, rfl, c, rw⟩
  · rw [c] at q
    exact ⟨_, H2, I3, rw', q .non Hd2 H2 (g1.trans g2) .non⟩
  · rw [c] at q
    exact ⟨_, H2, I3, rw', q w Hd2 H2 (g1.trans g2) rw⟩
theorem p_get2 (hu : X.A.units + 64 < cLine) (ho : PE X o (tP X.K .bor O fo)) (he : PE X e (tP X.K .bor O fk)) (hx : PE X f (tP X.K .dat O fx)) (m : M2 X o "get" apos e f cpos) : PE X (.Call (.Attribute o "get" apos) [e, f] [] cpos) (tP X.K .dat O (op3 get2 fo fk fx)) := by
  refine ⟨fun pins s σ H Q I ⟨fc, ρ, Hd, z, S, hf, q⟩ => ?_⟩
  unfold op3 at hf
  obtain ⟨d, h1, hf⟩ := bind_some hf
  obtain ⟨k, h2, hf⟩ := bind_some hf
  obtain ⟨x, h3, hf⟩ := bind_some hf
  obtain ⟨kvs, rfl, ok, rfl⟩ := get2_inv hf
  refine wpAny_Call_method m.base m.few m.line PySem.F.plainAttrs_dict PySem.F.slot_dict_get PySem.F.type_dict_get (thn (ho.run pins s σ H (fun v H1 => ∃ Hd1, Gr Hd H Hd1 H1 ∧ Tp X.K Hd1 H1 v (.dict kvs)) I ⟨fc, ρ, Hd, _, S, h1, fun v Hd' H' g r => ⟨Hd', g, r⟩⟩) fun u s1 ⟨x, H1, I1, rx, Hd1, g1, tx⟩ => ?_)
  obtain ⟨a, rfl, isd⟩ := isD_of tx ok
  obtain rfl : u = Value.ref a := rx
  obtain ⟨t1, t2, _⟩ := isD_at I1 isd
  refine ⟨t1, t2, ?_⟩
  rw [m.trees]
  refine Calls.callWith_builtin rfl (Calls.evalArgs_plain (Calls.spliced_cons (thn (he.run pins s1 σ H1 (fun v H2 => ∃ Hd2, Gr Hd1 H1 Hd2 H2 ∧ Tp X.K Hd2 H2 v k) I1 ⟨fc, ρ, Hd1, _, S.grow g1, h2, fun v Hd' H' g r => ⟨Hd', g, r⟩⟩) fun iv s2 ⟨y, H2, I2, ry, Hd2, g2, ty⟩ => 
    Calls.spliced_cons (thn (hx.run pins s2 σ H2 (fun v H3 => ∃ Hd3, Gr Hd2 H2 Hd3 H3 ∧ Rp X.K Hd3 v x) I2 ⟨fc, ρ, Hd2, _, (S.grow g1).grow g2, h3, fun v Hd' H' g r => ⟨Hd', g, r⟩⟩) fun fv s3 ⟨z, H3, I3, rz, Hd3, g3, tz⟩ => Calls.spliced_nil ?_))))
  obtain ⟨a', r, ea, dg, c⟩ := look_rel g3.s (Tp.mono (g2.trans g3).d (g2.trans g3).h tx) (Tp.mono g3.d g3.h ty) ok
  cases ea
  refine g_get2 (by omega) I3 dg ry rz fun w' s4 I4 rw' => ?_
  rcases c with ⟨rfl, c⟩ | ⟨w, d, rfl, c, rw⟩
  · rw [c] at q
    exact ⟨_, H3, I4, rw', q z Hd3 H3 ((g1.trans g2).trans g3) tz⟩
  · rw [c] at q
    exact ⟨_, H3, I4, rw', q w Hd3 H3 ((g1.trans g2).trans g3) rw⟩
end
end PL

set_option Elab.async false
set_option linter.all false
set_option maxRecDepth 100000
namespace PL
open PySem PySem.Spec PyProof.Rows L2 PySem.W

/-! ### what changes a thing of one's own -/
/-- a method, by values: what it gives, what the thing is then -/
def MuR (K : PySem.W.Frag) (r : V → List V → Hp → VK → Prop) (k : D → List D → Option (D × D)) : Prop := ∀ (Hd H : Hp) (l : Addr) (d : D) (args : List D) (vs : List V) (y : D × D) (Q : VK), Ex Hd H → Hd l = none → Ow K Hd H l d → Rps K Hd vs args → k d args = some y →
  ∃ v o, Ow K Hd (upd H l o) l y.2 ∧ Rp K Hd v y.1 ∧ (Q v (upd H l o) → r (.ref l) vs H Q)
section
variable {X : Cx} {K : PySem.W.Frag} {O I L : List Nat} {e : Expr} {es : List Expr} {i : Nat} {x : Str} {name : Str} {id : String} {xpos apos cpos : Pos} {ase : Env → Option (List D × Env)} {k : D → List D → Option (D × D)} {r : V → List V → Hp → VK → Prop}
theorem ow_tyV {Hd H : Hp} {a : Addr} {d : D} (w : Ow K Hd H a d) (h : isLst d = true) : tyV K "list" (.ref a) H := by
  cases w with
  | lst h1 _ _ => exact .inl ⟨rfl, _, .inl (.of h1)⟩
  | dK _ _ => cases h
  | dT _ _ => cases h
theorem ow_upd {Hd H : Hp} {l : Addr} {o : HO} {d : D} (h : Ow K Hd (upd H l o) l d) (e : Ex Hd H) (n : Hd l = none) : Ex Hd (upd H l o) := fun b u eb => by
  rw [upd_ne (ne_of_none eb n)]
  exact e b u eb
/-- a list's method: name.m(..) -/
def mutL (i : Nat) (k : D → List D → Option (D × D)) (as : Env → Option (List D × Env)) : Env → Option (D × Env) := fun ρ => (var i ρ).bind fun d0 => (asL d0).bind fun _ => (as ρ).bind fun ds => (var i ds.2).bind fun d => (k d ds.1).bind fun z => some (z.1, ds.2.set i (some z.2))
where
  asL : D → Option Unit
    | .list _ => some ()
    | _ => none
theorem mut_core {X : Cx} {O : List Nat} {i : Nat} {t : TA} {r : V → List V → Hp → VK → Prop} {k : D → List D → Option (D × D)} {ase : Env → Option (List D × Env)} (hO : i ∈ O) (hr : MuR X.K r k) (ht : ∀ σ H Q, tEs X.K O ase σ H Q → t σ H Q) :
    ∀ σ H Q, tE X.K O (mutL i k ase) σ H Q → tVar i σ H fun x H1 => tyV X.K "list" x H1 ∧ t σ H1 fun xs H2 => r x xs H2 Q := fun σ H Q ⟨fc, ρ, Hd, z, ρ', S, hf, q⟩ => by
  unfold mutL at hf
  obtain ⟨d0, h0, hf⟩ := bind_some hf
  obtain ⟨u0, hl, hf⟩ := bind_some hf
  obtain ⟨ds, h1, hf⟩ := bind_some hf
  obtain ⟨d, h2, hf⟩ := bind_some hf
  obtain ⟨z2, h3, hf⟩ := bind_some hf
  cases hf
  obtain ⟨v0, s0, _, t0⟩ := S.val i d0 (var_at h0)
  obtain ⟨w, rfl, _, ow0, _⟩ := t0 hO
  have il : isLst d0 = true := by
    cases d0 with
    | list _ => rfl
    | _ => cases hl
  refine ⟨.ref w, s0, ow_tyV ow0 il, ht _ _ _ ⟨fc, ρ, Hd, ds.1, ds.2, S, h1, fun vs Hd1 H1 S1 e1 r1 => ?_⟩⟩
  obtain ⟨v1, s1, _, t1⟩ := S1.val i d (var_at h2)
  rw [s0] at s1
  cases s1
  obtain ⟨w1, ew, nw, ow, _⟩ := t1 hO
  cases ew
  obtain ⟨v, o, a1, a2, a3⟩ := hr Hd1 H1 w d ds.1 vs z2 Q S1.sub nw ow r1 h3
  refine a3 (q v Hd1 _ (S1.changed hO (var_at h2) s0 (Evl.Ex.refl _) (ow_upd a1 S1.sub nw) (fun b u hb eb => by rw [upd_ne hb]; exact eb) (fun p u e n => by rw [n] at e; cases e) a1) e1 a2)
theorem p_mut (slot : Slot "list" name id) (hty : typeOf (.builtin id) = pure (.type "method_descriptor")) (hm : MtR X id r) (hk : MuR X.K r k) (hn : PE X (.Name x xpos) (tVar i)) (hO : i ∈ O) (ha : PA X (e :: es) (tEs X.K O ase))
    (hbase : attributeBase (.Name x xpos) name X.env (eval (.Name x xpos) X.env) = eval (.Name x xpos) X.env := by rfl)
    (hfew : ((backTo cpos (starEach (e :: es) X.env)).all (fun x => !x.1) && (backToKw cpos (keywordEach [] X.env)).all (fun x => x.1.isSome)
      && decide ((e :: es).length + ([] : List Keyword).length + (if ([] : List Keyword).isEmpty then 0 else 1) < 30)) = true := by rfl)
    (hline : (apos.endLine == cpos.line) = true := by rfl) (hs : starEach (e :: es) X.env = (false, eval e X.env) :: starEach es X.env := by rfl) (hplain : (backTo cpos (starEach es X.env)).any (·.1) = false := by rfl) :
    PE X (.Call (.Attribute (.Name x xpos) name apos) (e :: es) [] cpos) (tE X.K O (mutL i k ase)) :=
  PE.imp (pe_bm PySem.F.plainAttrs_list slot hty hm hn ha hbase hfew hline hs hplain) (mut_core hO hk fun _ _ _ h => h)
theorem p_mut0 (slot : Slot "list" name id) (hty : typeOf (.builtin id) = pure (.type "method_descriptor")) (hm : MtR X id r) (hk : MuR X.K r k) (hn : PE X (.Name x xpos) (tVar i)) (hO : i ∈ O)
    (hbase : attributeBase (.Name x xpos) name X.env (eval (.Name x xpos) X.env) = eval (.Name x xpos) X.env := by rfl) (hline : (apos.endLine == cpos.line) = true := by rfl) :
    PE X (.Call (.Attribute (.Name x xpos) name apos) [] [] cpos) (tE X.K O (mutL i k anilE)) :=
  PE.imp (pe_bm0 PySem.F.plainAttrs_list slot hty hm hn hbase hline) (mut_core (t := fun _ H Q => Q [] H) hO hk fun σ H Q ⟨fc, ρ, Hd, ds, ρ', S, hf, q⟩ => by
    cases hf
    exact q [] Hd H S (Evl.Ex.refl _) .nil)

/-! append, extend, pop, remove, insert -/
def appendD : D → List D → Option (D × D)
  | .list ds, [x] => if ds.length < 16777216 then some (.none, .list (ds ++ [x])) else none
  | _, _ => none
theorem line_is : sizeLine ≥ 16777216 := by rw [sizeLine_eq]; omega
theorem mu_append : MuR K rAppend appendD := fun Hd H l d args vs y Q e n w r h => by
  unfold appendD at h
  split at h
  · split at h
    · cases h
      cases w with
      | @lst xs ds h1 h2 hz =>
        cases r with
        | @cons v vs _ _ r1 r2 =>
          cases r2
          have := line_is
          have hl := h2.length
          exact ⟨.non, .lst (xs ++ [v]), .lst upd_same (h2.append (Rps.one r1)) (by rw [List.length_append, List.length_singleton]; omega), .non, fun q => ⟨l, xs, v, rfl, rfl, h1, by omega, q⟩⟩
    · cases h
  · cases h
def rExt : V → List V → Hp → VK → Prop := fun x vs H Q => ∃ l b xs zs, x = .ref l ∧ vs = [.ref b] ∧ H l = some (.lst xs) ∧ Rd H b (.lst zs) ∧ xs.length + zs.length ≤ sizeLine ∧ Q .non (upd H l (.lst (xs ++ zs)))
theorem mt_ext : MtR X "list.extend" rExt := by
  intro pins s σ H x vs v us Q I rx rv h
  obtain ⟨l, b, xs, zs, rfl, rfl, hH, hB, hz, q⟩ := h
  cases rx
  obtain ⟨u, rfl, ru⟩ := rv.one
  cases ru
  obtain ⟨z, its, n, r, hl, e⟩ := I.lstM hH
  obtain ⟨z2, its2, n2, r2, e2⟩ := hB.ok I.hok
  have hl2 := r2.length
  have hsz : its.toArray.size + its2.toArray.size ≤ sizeLine := by rw [List.size_toArray, List.size_toArray]; omega
  have hlong : ¬ (!its.toArray.isEmpty && Builtin.List.listTooLong (its.toArray.size + its2.toArray.size)) = true := by
    rw [notLongL hsz, Bool.and_false]
    exact Bool.false_ne_true
  refine call_meets F.slot_list_extend ⟨_, e, rfl⟩ F.entry_list_extend (F.args_list_extend_2 _ _)
    (AutoSeq1.list_extend_list_list_0 l its.toArray n b its2.toArray n2 hlong (by rw [List.size_toArray]; omega) (by omega)) ⟨e, e2, ?_⟩
  refine ⟨.non, _, I.lset (its' := its ++ its2) hH e (by simp) (r.append r2) ?_, rfl, q⟩
  rw [List.length_append]
  omega
def extendD : D → List D → Option (D × D)
  | .list ds, [.list es] => if ds.length + es.length ≤ 16777216 then some (.none, .list (ds ++ es)) else none
  | _, _ => none
theorem mu_extend : MuR K rExt extendD := fun Hd H l d args vs y Q e n w r h => by
  unfold extendD at h
  split at h
  · split at h
    · cases h
      cases w with
      | @lst xs ds h1 h2 hz =>
        cases r with
        | @cons v vs _ _ r1 r2 =>
          cases r2
          cases r1 with
          | @lst b zs _ g1 g2 _ =>
            have := line_is
            have hl := h2.length
            have hl2 := g2.length
            exact ⟨.non, .lst (xs ++ zs), .lst upd_same (h2.append g2) (by rw [List.length_append]; omega), .non, fun q => ⟨l, b, xs, zs, rfl, rfl, h1, rd_mono e g1, by omega, q⟩⟩
    · cases h
  · cases h
def popD : D → List D → Option (D × D)
  | .list ds, [] => (ds[ds.length - 1]?).map fun z => (z, .list ds.dropLast)
  | _, _ => none
theorem mu_pop : MuR K rPop popD := fun Hd H l d args vs y Q e n w r h => by
  unfold popD at h
  split at h
  · cases w with
    | @lst xs ds h1 h2 hz =>
      cases r
      obtain ⟨z, h3, rfl⟩ := Option.map_eq_some_iff.mp h
      obtain ⟨v, hv, rv⟩ := h2.get h3
      exact ⟨v, .lst xs.dropLast, .lst upd_same h2.dropLast (by rw [List.length_dropLast]; omega), rv, fun q => ⟨l, xs, v, rfl, rfl, h1, by rw [h2.length]; exact hv, q⟩⟩
  · cases h
def popAtD : D → List D → Option (D × D)
  | .list ds, [.int i] => if -(2 ^ 63) ≤ i ∧ i < 2 ^ 63 then (seqIndex? i ds.length).bind fun k => (ds[k]?).map fun z => (z, .list (ds.eraseIdx k)) else none
  | _, _ => none
theorem mu_popAt : MuR K rPopAt popAtD := fun Hd H l d args vs y Q e n w r h => by
  unfold popAtD at h
  split at h
  · split at h
    · rename_i hb
      cases w with
      | @lst xs ds h1 h2 hz =>
        cases r with
        | cons r1 r2 =>
          cases r2
          cases r1
          obtain ⟨k, h3, h⟩ := bind_some h
          obtain ⟨z, h4, rfl⟩ := Option.map_eq_some_iff.mp h
          obtain ⟨v, hv, rv⟩ := h2.get h4
          exact ⟨v, .lst (xs.eraseIdx k), .lst upd_same (h2.erase k) (Nat.le_trans (len_erase _ _) hz), rv, fun q => ⟨l, xs, _, k, v, rfl, rfl, h1, hb.1, hb.2, by rw [h2.length]; exact h3, hv, q⟩⟩
    · cases h
  · cases h
end
end PL

set_option Elab.async false
set_option linter.all false
set_option maxRecDepth 100000
namespace PL
open PySem PySem.Spec PyProof.Rows L2 PySem.W

/-! ### x[i] = v -/
def dputD (kvs : List (D × D)) (k v : D) : List (D × D) :=
  if (kvs.any fun p => PyData.eqv p.1 k) = true then kvs.map (fun p => if PyData.eqv p.1 k = true then (p.1, v) else p) else kvs ++ [(k, v)]
section
variable {K : PySem.W.Frag} {Hd H : Hp}
theorem any_gen {κ : Type} [DecidableEq κ] {enc : κ → D} (he : ∀ a b, PyData.eqv (enc a) (enc b) = decide (a = b)) (k : κ) : ∀ {kvs : List (κ × V)} {ds : List D}, kvs.length = ds.length →
    (((kvs.map fun p => enc p.1).zip ds).any fun p => PyData.eqv p.1 (enc k)) = kvs.any fun kv => decide (kv.1 = k)
  | [], _, _ => rfl
  | p :: kvs, d :: ds, h => by
    rw [List.map_cons, List.zip_cons_cons, List.any_cons, List.any_cons, he, any_gen he k (Nat.succ.inj h)]
theorem rep_gen {κ : Type} [DecidableEq κ] {enc : κ → D} (he : ∀ a b, PyData.eqv (enc a) (enc b) = decide (a = b)) (k : κ) {v : V} {z : D} (rv : Rp K Hd v z) : ∀ {kvs : List (κ × V)} {ds : List D}, Rps K Hd (kvs.map (·.2)) ds →
    ∃ ds', Rps K Hd ((kvs.map fun kv => if kv.1 = k then (kv.1, v) else kv).map (·.2)) ds' ∧ ((kvs.map fun kv => if kv.1 = k then (kv.1, v) else kv).map fun p => enc p.1).zip ds' = ((kvs.map fun p => enc p.1).zip ds).map fun p => if PyData.eqv p.1 (enc k) = true then (p.1, z) else p
  | [], _, .nil => ⟨[], .nil, rfl⟩
  | p :: kvs, _, .cons (d := d) (ds := ds) r t => by
    obtain ⟨ds', r', e'⟩ := rep_gen he k rv t
    by_cases hk : p.1 = k
    · refine ⟨z :: ds', ?_, ?_⟩
      · rw [List.map_cons, if_pos hk]
        exact .cons rv r'
      · rw [List.map_cons, if_pos hk, List.map_cons, List.map_cons, List.zip_cons_cons, List.zip_cons_cons, List.map_cons, e', he, if_pos (decide_eq_true hk)]
    · refine ⟨d :: ds', ?_, ?_⟩
      · rw [List.map_cons, if_neg hk]
        exact .cons r r'
      · rw [List.map_cons, if_neg hk, List.map_cons, List.map_cons, List.zip_cons_cons, List.zip_cons_cons, List.map_cons, e', he, if_neg (by simpa using hk)]
theorem dput_gen {κ : Type} [DecidableEq κ] {enc : κ → D} (he : ∀ a b, PyData.eqv (enc a) (enc b) = decide (a = b)) (k : κ) {v : V} {z : D} (rv : Rp K Hd v z) {kvs : List (κ × V)} {ds : List D} (r : Rps K Hd (kvs.map (·.2)) ds) :
    ∃ ds', Rps K Hd ((putK kvs k v).map (·.2)) ds' ∧ ((putK kvs k v).map fun p => enc p.1).zip ds' = dputD ((kvs.map fun p => enc p.1).zip ds) (enc k) z := by
  have hl := r.length
  rw [List.length_map] at hl
  unfold putK dputD
  rw [any_gen he k hl]
  split
  · exact rep_gen he k rv r
  · refine ⟨ds ++ [z], ?_, ?_⟩
    · rw [List.map_append]
      exact r.append (Rps.one rv)
    · rw [List.map_append, List.zip_append (by rw [List.length_map]; exact hl)]
      rfl
/-- the heap behind a[y] = v, an empty dict being of both kinds -/
def DP (H : Hp) (a : Addr) (y v : V) (H' : Hp) : Prop := DPut H a y v H' ∨ (H a = some (.dK []) ∧ (∃ (b : Addr) (k : List Key), y = .ref b ∧ H b = some (.tup (k.map kV)) ∧ H' = upd H a (.dT [(k, v)]))) ∨ (H a = some (.dT []) ∧ (∃ k : Key, y = kV k ∧ H' = upd H a (.dK [(k, v)])))
/-- a key that a dict may take up -/
def isPut : D → Bool
  | .dict [(.none, .tuple _)] => true
  | d => isKey d
/-- a tuple made to be a key -/
def keyP : D → D
  | .tuple ds => kt ds
  | d => d
def putD : D → D → D → Option D
  | .list ds, .int i, v => (ixN ds.length i).map fun j => .list (ds.set j v)
  | .dict kvs, k, v => if (isPut k = true ∧ keyOk kvs (keyN k) = true) ∧ kvs.length ≤ 1000000 then some (.dict (dputD kvs (keyN k) v)) else none
  | _, _, _ => none
def rPut : V → V → V → Hp → (Hp → Prop) → Prop := fun o i v H Q => rSetL o i v H Q ∨ ∃ a H', o = .ref a ∧ DP H a i v H' ∧ Q H'
end
section
variable {X : Cx} {pins : List (Addr × Obj)} {σ : L2.St} {H : Hp} {s : Shared} {a : Addr} {y v : V} {u r : Value} {A : Around} {E : Value → Shared → Prop}
theorem g_setItem {H' : Hp} {Q : Unit → Shared → Prop} (hu : A.units + 1 < cLine) (I : Inv X pins σ H s) (g : DP H a y v H') (ry : RelV y u) (rv : RelV v r) (h : ∀ s', Inv X pins σ H' s' → Q () s') :
    wpAny (model X.prog X.w) A (setItem (.ref a) u r) Q E s := by
  rcases g with g | ⟨e, b, k, rfl, eb, rfl⟩ | ⟨e, k, rfl, rfl⟩
  · exact d_setItem hu I g ry rv h
  · cases (show u = Value.ref b from ry)
    obtain ⟨z, hd, vs, rel, dd⟩ := dk_of I.hok e
    have dd := emptyT rel dd
    refine wpAny_setItem_heap (hsz := Nat.zero_le _) (tupleKind_room_in1 hu) (key_of I.hok eb) dd fun h' dd' hs => h _ ?_
    obtain ⟨q, es, ep, hq, h2, h3, h4, _, h5⟩ := dd'
    have kt : KT H (putK ([] : List (List Key × V)) k v) _ := KT.put (H := H) (xs := []) .nil k eb rv
    refine d_write I (by rw [e]; exact True.intro) hs ⟨q, hq⟩ ⟨(by rw [sizeLine_eq]; show 1 ≤ _; omega), hd, _, kt.keeps fun c ys ec => ?_, q, es, ep, hq, h2, h3, h4, h5⟩
    rw [upd_ne (ne_of ec e (fun z => nomatch z))]
    exact ec
  · obtain ⟨z, hd, xs, rel, dd⟩ := dt_of I.hok e
    have dd := emptyK rel dd
    refine wpAny_setItem_pairs (hsz := Nat.zero_le _) (kV_is ry) dd fun h' dd' hs => h _ ?_
    have he : ∃ q, h'.get? a = some q := let ⟨q, _, _, hq, _⟩ := dd'; ⟨q, hq⟩
    have kv : KV (putK ([] : List (Key × V)) k v) (stored [] k r) := KV.put .nil k rv
    exact d_write I (by rw [e]; exact True.intro) hs he (dk_new (by rw [sizeLine_eq]; show 1 ≤ _; omega) hd kv dd')
theorem set_put (hu : X.A.units + 64 < cLine) : PSet X rPut := by
  intro pins s σ H o i v ov iv u Q I ro ri rv h
  rcases h with h | ⟨a, H', rfl, g, q⟩
  · exact set_list pins s σ H o i v ov iv u Q I ro ri rv h
  · obtain rfl : ov = Value.ref a := ro
    exact g_setItem (by omega) I g ri rv fun s' I' => ⟨H', I', q⟩
end
section
variable {K : PySem.W.Frag}
theorem of_putKeys {Hd H : Hp} {v : V} {d : D} (e : Ex Hd H) (t : Tp K Hd H v d) (p : isPut d = true) (h : isKeys (keyN d) = true) : ∃ b k, v = .ref b ∧ Hd b = some (.tup (k.map kV)) ∧ keyN d = keysD k := by
  unfold isPut at p
  split at p
  · obtain ⟨a, xs, rfl, h1, h2, _⟩ := kt_of t
    obtain ⟨ks, rfl, rfl⟩ := all_keys h2 h
    exact ⟨a, ks, rfl, h1, rfl⟩
  · exfalso
    cases d <;> simp [isKey] at p <;> simp [keyN, isKeys] at h
theorem keyOk_K {κ : Type} {kvs : List (κ × V)} {ds : List D} {enc : κ → D} {k : D} (hl : kvs.length = ds.length) (h : keyOk ((kvs.map fun p => enc p.1).zip ds) k = true) : (isKey k = true ∧ (∀ p ∈ kvs, isKey (enc p.1) = true)) ∨ (isKeys k = true ∧ (∀ p ∈ kvs, isKeys (enc p.1) = true)) := by
  have key : ∀ f : D → Bool, (((kvs.map fun p => enc p.1).zip ds).all fun p => f p.1) = true → ∀ p ∈ kvs, f (enc p.1) = true := fun f ha p hp => by
    have e : (((kvs.map fun p => enc p.1).zip ds).map (·.1)) = kvs.map fun p => enc p.1 := List.map_fst_zip (by rw [List.length_map]; omega)
    have hm : enc p.1 ∈ ((kvs.map fun p => enc p.1).zip ds).map (·.1) := by rw [e]; exact List.mem_map.mpr ⟨p, hp, rfl⟩
    obtain ⟨q, hq, eq⟩ := List.mem_map.mp hm
    rw [← eq]
    exact List.all_eq_true.mp ha q hq
  unfold keyOk at h
  rcases Bool.or_eq_true_iff.mp h with h | h
  · obtain ⟨a, b⟩ := Bool.and_eq_true_iff.mp h
    exact .inl ⟨a, key isKey b⟩
  · obtain ⟨a, b⟩ := Bool.and_eq_true_iff.mp h
    exact .inr ⟨a, key isKeys b⟩
/-- what is put where -/
theorem ow_put {Hd H : Hp} {l : Addr} {d k z d' : D} {y v : V} {Q : Hp → Prop} (e : Ex Hd H) (n : Hd l = none) (w : Ow K Hd H l d) (ty : Tp K Hd H y k) (rv : Rp K Hd v z) (h : putD d k z = some d') :
    ∃ o, Ow K Hd (upd H l o) l d' ∧ (Q (upd H l o) → rPut (.ref l) y v H Q) := by
  have ln := line_is
  cases w with
  | @lst xs ds h1 h2 hz =>
    cases k with
    | int i =>
      obtain ⟨j, hj, rfl⟩ := Option.map_eq_some_iff.mp (show (ixN ds.length i).map (fun j => PyData.list (ds.set j z)) = some d' from h)
      cases ty
      exact ⟨.lst (xs.set j v), .lst upd_same (h2.set j rv) (by rw [List.length_set]; exact hz), fun q => .inl ⟨l, xs, i, j, rfl, rfl, h1, by rw [h2.length]; exact hj, q⟩⟩
    | _ => cases h
  | @dK kvs ds h1 h2 =>
    have h : (if (isPut k = true ∧ keyOk _ (keyN k) = true) ∧ _ then some (PyData.dict (dputD _ (keyN k) z)) else none) = some d' := h
    split at h
    case isFalse => cases h
    rename_i ok
    cases h
    have hl := h2.length
    rw [List.length_map] at hl
    have hlen : kvs.length ≤ 1000000 := by
      have := ok.2
      rw [List.length_zip, List.length_map, hl, Nat.min_self] at this
      omega
    rcases keyOk_K hl ok.1.2 with ⟨a, _⟩ | ⟨a, b⟩
    · have ek := keyN_key a
      rw [ek] at a ⊢
      obtain ⟨ks, rfl, rfl⟩ := of_isKey ty a
      obtain ⟨ds', r', e'⟩ := dput_gen eqv_key ks rv h2
      exact ⟨.dK (putK kvs ks v), by rw [← e']; exact .dK upd_same r', fun q => .inr ⟨l, _, rfl, .inl (DPut.k h1 (by omega)), q⟩⟩
    · obtain ⟨b2, ks, rfl, hb, ek⟩ := of_putKeys e ty ok.1.1 a
      rw [ek]
      have hn : kvs = [] := by
        cases kvs with
        | nil => rfl
        | cons p r =>
          have := b p List.mem_cons_self
          rw [notKeys_key] at this
          cases this
      subst hn
      cases h2
      exact ⟨.dT [(ks, v)], .dT (ds := [z]) upd_same (.cons rv .nil), fun q => .inr ⟨l, _, rfl, .inr (.inl ⟨h1, b2, ks, rfl, e _ _ hb, rfl⟩), q⟩⟩
  | @dT kvs ds h1 h2 =>
    have h : (if (isPut k = true ∧ keyOk _ (keyN k) = true) ∧ _ then some (PyData.dict (dputD _ (keyN k) z)) else none) = some d' := h
    split at h
    case isFalse => cases h
    rename_i ok
    cases h
    have hl := h2.length
    rw [List.length_map] at hl
    have hlen : kvs.length ≤ 1000000 := by
      have := ok.2
      rw [List.length_zip, List.length_map, hl, Nat.min_self] at this
      omega
    rcases keyOk_K hl ok.1.2 with ⟨a, b⟩ | ⟨a, _⟩
    · have ek := keyN_key a
      rw [ek] at a ⊢
      obtain ⟨ks, rfl, rfl⟩ := of_isKey ty a
      have hn : kvs = [] := by
        cases kvs with
        | nil => rfl
        | cons p r =>
          have := b p List.mem_cons_self
          rw [notKey_keys] at this
          cases this
      subst hn
      cases h2
      exact ⟨.dK [(ks, v)], .dK (ds := [z]) upd_same (.cons rv .nil), fun q => .inr ⟨l, _, rfl, .inr (.inr ⟨h1, ks, rfl, rfl⟩), q⟩⟩
    · obtain ⟨b2, ks, rfl, hb, ek⟩ := of_putKeys e ty ok.1.1 a
      rw [ek]
      obtain ⟨ds', r', e'⟩ := dput_gen eqv_keys ks rv h2
      exact ⟨.dT (putK kvs ks v), by rw [← e']; exact .dT upd_same r', fun q => .inr ⟨l, _, rfl, .inl (DPut.t h1 (e _ _ hb) (by omega)), q⟩⟩
def dIx (d e : D) : Option D := match d with
  | .dict kvs => if keyOk kvs (keyN e) then dgetD kvs (keyN e) else none
  | _ => none
theorem dIx_inv {d e z : D} (h : dIx d e = some z) : ∃ kvs, d = .dict kvs ∧ keyOk kvs (keyN e) = true ∧ dgetD kvs (keyN e) = some z := by
  unfold dIx at h
  split at h
  · split at h
    · exact ⟨_, rfl, by assumption, h⟩
    · cases h
  · cases h
def putS (j : Nat) (fi fv : Env → Option (D × Env)) : Env → Option (Fl × Env) := fun ρ => (fv ρ).bind fun x => (var j x.2).bind fun _ => (fi x.2).bind fun y => (var j y.2).bind fun d => (putD d y.1 x.1).bind fun d' => some (.nx, y.2.set j (some d'))
def augS (j : Nat) (op : D → D → Option D) (fi fv : Env → Option (D × Env)) : Env → Option (Fl × Env) := fun ρ => (var j ρ).bind fun _ => (fi ρ).bind fun y => (var j y.2).bind fun d => (dIx d y.1).bind fun old => (fv y.2).bind fun z => (var j z.2).bind fun d1 => (op old z.1).bind fun new => (putD d1 y.1 new).bind fun d' => some (.nx, z.2.set j (some d'))
variable {X : Cx} {O I L : List Nat} {e i : Expr} {j : Nat} {x : Str} {xp sp pos : Pos} {fi fv : Env → Option (D × Env)} {f : Env → Option D} {fe : Env → Option (D × Env)} {te : TE}
theorem s_put (hu : X.A.units + 64 < cLine) (hn : PE X (.Name x xp) (tVar j)) (hO : j ∈ O) (hi : PE X i (tE X.K O fi)) (he : PE X e (tE X.K O fv)) (hs : swapsWithSole [.Subscript (.Name x xp) i sp] e pos.line X.env = pure false := by rfl) (hw : swappedStores [.Subscript (.Name x xp) i sp] e X.env = pure none := by rfl)
    (h1 : (assignEach [.Subscript (.Name x xp) i sp] X.env).map (·.2) = [assign (.Subscript (.Name x xp) i sp) X.env] := by rfl)
    (ha : ∀ v, assign (.Subscript (.Name x xp) i sp) X.env v = (do
      let ov ← holding [v] (eval (.Name x xp) X.env)
      let iv ← holding [v, ov] (eval i X.env)
      standAt sp
      holding [v, ov, iv] (setItem ov iv v)
      release [v, ov, iv] []) := by intro _; rfl) : PS X (.Assign [.Subscript (.Name x xp) i sp] e pos) (tS X.K I L O O (putS j fi fv)) :=
  PS.imp (ps_asg he (pg_sub hn hi (set_put hu) ha) hs hw h1) fun Dn σ H ⟨fc, ρ, Hd, fl, ρ', S, io, hf, q⟩ => by
    unfold putS at hf
    obtain ⟨x1, k1, hf⟩ := bind_some hf
    obtain ⟨d0, k2, hf⟩ := bind_some hf
    obtain ⟨y1, k3, hf⟩ := bind_some hf
    obtain ⟨d1, k4, hf⟩ := bind_some hf
    obtain ⟨d2, k5, hf⟩ := bind_some hf
    cases hf
    refine ⟨fc, ρ, Hd, x1.1, x1.2, S, k1, fun v Hd1 H1 S1 e1 r1 => ?_⟩
    obtain ⟨v0, s0, _, t0⟩ := S1.val j d0 (var_at k2)
    obtain ⟨w, rfl, _, _, _⟩ := t0 hO
    refine ⟨.ref w, s0, fc, x1.2, Hd1, y1.1, y1.2, S1, k3, fun iv Hd2 H2 S2 e2 r2 => ?_⟩
    obtain ⟨v1, s1, _, t1⟩ := S2.val j d1 (var_at k4)
    rw [s0] at s1
    cases s1
    obtain ⟨w1, ew, nw, ow, _⟩ := t1 hO
    cases ew
    obtain ⟨o, a1, a2⟩ := ow_put (Q := fun H6 => Dn.nx σ H6) S2.sub nw ow (r2.tp S2.sub) (r1.mono e2) k5
    exact a2 (q Hd2 σ _ (S2.changed hO (var_at k4) s0 (Evl.Ex.refl _) (ow_upd a1 S2.sub nw) (fun b u hb eb => by rw [upd_ne hb]; exact eb) (fun p u e n => by rw [n] at e; cases e) a1) (e1.trans e2))
/-- w[i] op= e -/
theorem s_augS {op : Operator} {tip : TIp} {k : D → D → Option D} (hu : X.A.units + 64 < cLine) (hn : PE X (.Name x xp) (tVar j)) (hO : j ∈ O) (hi : PE X i (tE X.K O fi)) (he : PE X e (tE X.K O fv)) (hp : PIp X op tip) (hk : Op2 X.K tip k .dat) (hg : PGet X (rIxD X.K))
    (ha : ∀ ov iv new, augStore i ov iv new = (do holding [new, ov, iv] (setItem ov iv new); release [new, ov, iv] []; pure .next) := by intros; rfl) : PS X (.AugAssign (.Subscript (.Name x xp) i sp) op e pos) (tS X.K I L O O (augS j k fi fv)) :=
  PS.imp (ps_augS hn hi hg he hp (set_put hu) ha) fun Dn σ H ⟨fc, ρ, Hd, fl, ρ', S, io, hf, q⟩ => by
    unfold augS at hf
    obtain ⟨d0, k0, hf⟩ := bind_some hf
    obtain ⟨y1, k1, hf⟩ := bind_some hf
    obtain ⟨d1, k2, hf⟩ := bind_some hf
    obtain ⟨old, k3, hf⟩ := bind_some hf
    obtain ⟨z1, k4, hf⟩ := bind_some hf
    obtain ⟨d2, k5, hf⟩ := bind_some hf
    obtain ⟨new, k6, hf⟩ := bind_some hf
    obtain ⟨d3, k7, hf⟩ := bind_some hf
    cases hf
    obtain ⟨v0, s0, _, t0⟩ := S.val j d0 (var_at k0)
    obtain ⟨w, rfl, _, _, _⟩ := t0 hO
    refine ⟨.ref w, s0, fc, ρ, Hd, y1.1, y1.2, S, k1, fun iv Hd1 H1 S1 e1 r1 => ?_⟩
    obtain ⟨v1, s1, _, t1⟩ := S1.val j d1 (var_at k2)
    rw [s0] at s1
    cases s1
    obtain ⟨w1, ew, nw, ow, _⟩ := t1 hO
    cases ew
    obtain ⟨kvs, rfl, ok, k3⟩ := dIx_inv k3
    obtain ⟨a, r, ea, g, c⟩ := look_rel S1.sub ow.tp (r1.tp S1.sub) ok
    cases ea
    rcases c with ⟨_, c⟩ | ⟨ov, d', rfl, c, ro⟩
    · rw [c] at k3; cases k3
    rw [c] at k3
    cases k3
    refine ⟨w, ov, rfl, g, fc, y1.2, Hd1, z1.1, z1.2, S1, k4, fun zv Hd2 H2 S2 e2 r2 => ?_⟩
    obtain ⟨v2, s2, _, t2⟩ := S2.val j d2 (var_at k5)
    rw [s0] at s2
    cases s2
    obtain ⟨w2, ew, nw2, ow2, _⟩ := t2 hO
    cases ew
    refine hk Hd2 H2 ov zv _ _ new _ S2.sub ((ro.mono e2).tp S2.sub) (r2.tp S2.sub) k6 fun nv Hd3 H3 g3 r3 => ?_
    have S3 := S2.grow g3
    obtain ⟨v3, s3, _, t3⟩ := S3.val j d2 (var_at k5)
    rw [s0] at s3
    cases s3
    obtain ⟨w3, ew, nw3, ow3, _⟩ := t3 hO
    cases ew
    obtain ⟨o, a1, a2⟩ := ow_put (Q := fun H6 => Dn.nx σ H6) S3.sub nw3 ow3 ((r1.mono (e2.trans g3.d)).tp S3.sub) r3 k7
    exact a2 (q Hd3 σ _ (S3.changed hO (var_at k5) s0 (Evl.Ex.refl _) (ow_upd a1 S3.sub nw3) (fun b u hb eb => by rw [upd_ne hb]; exact eb) (fun p u e n => by rw [n] at e; cases e) a1) ((e1.trans e2).trans g3.d))
theorem pget_dict (hu : X.A.units + 64 < cLine) : PGet X (rIxD X.K) := by
  intro pins s σ H o i ov iv Q I ro ri h
  obtain ⟨a, v, rfl, g, q⟩ := h
  obtain rfl : ov = Value.ref a := ro
  exact g_getItem (by omega) I g ri fun w' s' I' rw' => ⟨v, H, I', rw', q⟩
def iopD (g : Int → Int → Int) : D → D → Option D
  | .int i, .int j => some (.int (g i j))
  | _, _ => none
theorem ok_iop {g : Int → Int → Int} : Op2 K (ipI g) (iopD g) .dat := fun Hd H x y d e z Q eh tx ty hk q => by
  unfold iopD at hk
  split at hk
  · cases hk
    cases tx
    cases ty
    exact ⟨_, _, rfl, rfl, q _ Hd H (Gr.refl eh) (.int _)⟩
  · cases hk
/-- name op= e, ints -/
def augN (j : Nat) (k : D → D → Option D) (fv : Env → Option (D × Env)) : Env → Option (Fl × Env) := fun ρ => (var j ρ).bind fun old => (fv ρ).bind fun z => (k old z.1).bind fun new => some (.nx, z.2.set j (some new))
theorem s_aug {op : Operator} {g : Int → Int → Int} (hN : X.N.Nodup) (hi : X.N[j]? = some x) (hx : Loc X.env.scope x) (he : PE X e (tE X.K O fv)) (ho : PIp X op (ipI g)) (hj : O.contains j = false := by rfl) (hf : X.fn x = true ∨ X.env.scope.names.lookup x = some .local := by first | exact .inl rfl | exact .inr rfl | assumption) :
    PS X (.AugAssign (.Name x xp) op e pos) (tS X.K I L O O (augN j (iopD g) fv)) := PS.imp (ps_aug hN hi hx he ho hf) fun Dn σ H ⟨fc, ρ, Hd, fl, ρ', S, io, hf, q⟩ => by
  unfold augN at hf
  obtain ⟨old, k0, hf⟩ := bind_some hf
  obtain ⟨z1, k1, hf⟩ := bind_some hf
  obtain ⟨new, k2, hf⟩ := bind_some hf
  cases hf
  have hjO : j ∉ O := fun z => by rw [List.contains_iff_mem.mpr z] at hj; cases hj
  obtain ⟨v0, s0, t0, _⟩ := S.val j old (var_at k0)
  have r0 := t0 hjO
  refine ⟨v0, s0, fc, ρ, Hd, z1.1, z1.2, S, k1, fun zv Hd1 H1 S1 e1 r1 => ?_⟩
  exact ok_iop Hd1 H1 v0 zv old z1.1 new _ S1.sub ((r0.mono e1).tp S1.sub) (r1.tp S1.sub) k2 fun nv Hd2 H2 g2 r2 => q Hd2 _ H2 ((S1.grow g2).set hjO r2) (e1.trans g2.d)
end
end PL

set_option Elab.async false
set_option linter.all false
set_option maxRecDepth 100000
namespace PL
open PySem PySem.Spec PyProof.Rows L2 PySem.W

/-! ### a, b = x, y -/
def fres : List Md → List V → List Addr
  | .fre :: ms, .ref p :: vs => p :: fres ms vs
  | _ :: ms, _ :: vs => fres ms vs
  | _, _ => []
inductive Pk (K : PySem.W.Frag) (fc : FC) (O : List Nat) (ρ : Env) (σ : L2.St) (Hd H : Hp) : List Md → List V → List D → Prop
  | nil : Pk K fc O ρ σ Hd H [] [] []
  | dat {ms vs ds v d} : Rp K Hd v d → Pk K fc O ρ σ Hd H ms vs ds → Pk K fc O ρ σ Hd H (.dat :: ms) (v :: vs) (d :: ds)
  | fre {ms vs ds p d} : Hd p = none → fc.H0 p = none → Ow K Hd H p d → (∀ i ∈ O, ∀ d, ρ[i]? = some (some d) → σ[i]? ≠ some (some (.ref p))) → (∀ q ∈ fres ms vs, q ≠ p) → Pk K fc O ρ σ Hd H ms vs ds → Pk K fc O ρ σ Hd H (.fre :: ms) (.ref p :: vs) (d :: ds)
def tM (K : PySem.W.Frag) (O : List Nat) (ms : List Md) (f : Env → Option (List D × Env)) : TA := fun σ H Q =>
  ∃ fc ρ Hd ds ρ', SR K fc O ρ Hd σ H ∧ f ρ = some (ds, ρ') ∧ ∀ vs Hd' H', SR K fc O ρ' Hd' σ H' → Ex Hd Hd' → Pk K fc O ρ' σ Hd' H' ms vs ds → Q vs H'
section
variable {K : PySem.W.Frag} {X : Cx} {O I L : List Nat} {e : Expr} {es : List Expr} {ms : List Md} {fe : Env → Option (D × Env)} {f : Env → Option D} {fs : Env → Option (List D × Env)} {pos : Pos}
theorem m_nil : PA X [] (tM X.K O [] anilE) := PA.imp pa_nil fun σ H Q ⟨fc, ρ, Hd, ds, ρ', S, hf, q⟩ => by
  cases hf
  exact q [] Hd H S (Evl.Ex.refl _) .nil
theorem m_dat (he : PE X e (tE X.K O fe)) (hr : PA X es (tM X.K O ms fs)) (hs : starEach (e :: es) X.env = (false, eval e X.env) :: starEach es X.env := by rfl) : PA X (e :: es) (tM X.K O (.dat :: ms) (aconsE fe fs)) := PA.imp (pa_cons he hr hs) fun σ H Q ⟨fc, ρ, Hd, ds, ρ', S, hf, q⟩ => by
  unfold aconsE at hf
  obtain ⟨x, h1, hf⟩ := bind_some hf
  obtain ⟨xs, h2, hf⟩ := bind_some hf
  cases hf
  exact ⟨fc, ρ, Hd, x.1, x.2, S, h1, fun v Hd1 H1 S1 e1 r1 => ⟨fc, x.2, Hd1, xs.1, xs.2, S1, h2, fun vs Hd2 H2 S2 e2 P => q _ Hd2 H2 S2 (e1.trans e2) (.dat (r1.mono e2) P)⟩⟩
theorem Pk.back {fc fc' : FC} {ρ : Env} {σ : L2.St} {Hd H : Hp} {vs : List V} {ds : List D} (h : ∀ q, fc'.H0 q = none → fc.H0 q = none) (P : Pk K fc' O ρ σ Hd H ms vs ds) : Pk K fc O ρ σ Hd H ms vs ds ∧ ∀ q ∈ fres ms vs, fc'.H0 q = none := by
  induction P with
  | nil => exact ⟨.nil, fun q hq => nomatch hq⟩
  | dat r _ ih => exact ⟨.dat r ih.1, ih.2⟩
  | fre a b c d e _ ih => exact ⟨.fre a (h _ b) c d e ih.1, fun q hq => by
      rcases List.mem_cons.mp hq with rfl | hq
      · exact b
      · exact ih.2 q hq⟩
theorem m_fre (he : PE X e (tP X.K .fre O f)) (hr : PA X es (tM X.K O ms fs)) (hs : starEach (e :: es) X.env = (false, eval e X.env) :: starEach es X.env := by rfl) : PA X (e :: es) (tM X.K O (.fre :: ms) (aconsE (up f) fs)) := PA.imp (pa_cons he hr hs) fun σ H Q ⟨fc, ρ, Hd, ds, ρ', S, hf, q⟩ => by
  unfold aconsE up at hf
  obtain ⟨x, h1, hf⟩ := bind_some hf
  obtain ⟨xs, h2, hf⟩ := bind_some hf
  cases hf
  obtain ⟨d, h0, h1⟩ := bind_some h1
  cases h1
  refine ⟨fc, ρ, Hd, d, S, h0, fun v Hd1 H1 g1 ⟨p, ev, np, nd, w⟩ => ?_⟩
  subst ev
  have S1 := S.grow g1
  obtain ⟨fc', b1, b2, SB, b3, back⟩ := S1.rebase
  obtain ⟨o, ho⟩ := w.there
  have noP : ∀ i, (i, p) ∉ fc'.io := fun i hi => by
    obtain ⟨k1, ⟨d, k2⟩, k3⟩ := b3 i p hi
    exact S.notIn np i k1 d k2 k3
  refine ⟨fc', ρ, Hd1, xs.1, xs.2, SB, h2, fun vs Hd2 H2 S2 e2 P => ?_⟩
  obtain ⟨P1, P2⟩ := Pk.back (fc := fc) (fun q hq => S1.fresh (by rw [← b1]; exact hq)) P
  have k0 : H2 p = H1 p := by
    rw [ho]
    exact S2.frm p o (by rw [b1]; exact ho) noP
  have n2 : Hd2 p = none := by
    cases z : Hd2 p with
    | none => rfl
    | some u =>
      have y := S2.new p u z (by rw [b2]; exact nd)
      rw [b1, ho] at y
      cases y
  refine q _ Hd2 H2 (back _ _ _ S2) (g1.d.trans e2) (.fre n2 (S.fresh np) (w.move e2 fun u hu => by rw [k0]; exact hu) (fun i hi d hd e => ?_) (fun q hq z => ?_) P1)
  · obtain ⟨v, k1, _, k3⟩ := S2.val i d hd
    obtain ⟨a, rfl, _, _, fr⟩ := k3 hi
    rw [e] at k1
    cases k1
    rcases fr with fr | fr
    · rw [b1, ho] at fr
      cases fr
    · exact noP i fr
  · have := P2 q hq
    rw [z, b1, ho] at this
    cases this
/-! stored -/
def ownAll : List Nat → List Md → List Nat → List Nat
  | j :: js, .fre :: ms, O => ownAll js ms (j :: O)
  | _ :: js, _ :: ms, O => ownAll js ms O
  | _, _, O => O
def setV : List Nat → List V → L2.St → L2.St
  | j :: js, v :: vs, σ => setV js vs (σ.set j (some v))
  | _, _, σ => σ
theorem Pk.set {fc : FC} {ρ : Env} {σ : L2.St} {Hd H : Hp} {vs : List V} {ds : List D} {j : Nat} {d : Option D} {v : Option V} (hj : j ∉ O) (P : Pk K fc O ρ σ Hd H ms vs ds) : Pk K fc O (ρ.set j d) (σ.set j v) Hd H ms vs ds := by
  induction P with
  | nil => exact .nil
  | dat r _ ih => exact .dat r ih
  | fre a b c n e _ ih =>
    refine .fre a b c (fun i hi d hd => ?_) e ih
    have ne : j ≠ i := fun z => hj (z ▸ hi)
    rw [List.getElem?_set_ne ne] at hd
    rw [List.getElem?_set_ne ne]
    exact n i hi d hd
theorem Pk.ownP {fc : FC} {ρ : Env} {σ : L2.St} {Hd H : Hp} {vs : List V} {ds : List D} {j : Nat} {p : Addr} {d : D} (hj : j ∉ O) (hp : ∀ q ∈ fres ms vs, q ≠ p) (P : Pk K fc O ρ σ Hd H ms vs ds) : Pk K fc (j :: O) (ρ.set j (some d)) (σ.set j (some (.ref p))) Hd H ms vs ds := by
  induction P with
  | nil => exact .nil
  | dat r _ ih => exact .dat r (ih hp)
  | fre a b c n e _ ih =>
    rename_i q d0 _
    refine .fre a b c (fun i hi d hd => ?_) e (ih fun q hq => hp q (.tail _ hq))
    by_cases h : j = i
    · subst h
      intro z
      by_cases hl : j < σ.length
      · rw [List.getElem?_set_self hl] at z
        cases z
        exact hp _ List.mem_cons_self rfl
      · rw [List.getElem?_eq_none (by rw [List.length_set]; omega)] at z
        cases z
    · rw [List.getElem?_set_ne h] at hd
      rw [List.getElem?_set_ne h]
      exact n i ((List.mem_cons.mp hi).elim (fun z => absurd z.symm h) id) d hd
theorem set_all {fc : FC} {Hd H : Hp} : ∀ {js : List Nat} {ms : List Md} {vs : List V} {ds : List D} {O : List Nat} {ρ : Env} {σ : L2.St}, SR K fc O ρ Hd σ H → Pk K fc O ρ σ Hd H ms vs ds → js.length = ms.length → (∀ j ∈ js, j ∉ O) → js.Nodup → SR K fc (ownAll js ms O) (setAll js ds ρ) Hd (setV js vs σ) H
  | [], [], _, _, O, ρ, σ, S, .nil, _, _, _ => S
  | j :: js, _, _, _, O, ρ, σ, S, .dat (ms := ms) (vs := vs) (ds := ds) (v := v) (d := d) r P, hl, hO, hn => by
    have hj := hO j List.mem_cons_self
    show SR K fc (ownAll js ms O) (setAll js ds (ρ.set j (some d))) Hd (setV js vs (σ.set j (some v))) H
    exact set_all (S.set hj r) (P.set hj) (Nat.succ.inj hl) (fun i hi => hO i (.tail _ hi)) (List.nodup_cons.mp hn).2
  | j :: js, _, _, _, O, ρ, σ, S, .fre (ms := ms) (vs := vs) (ds := ds) (p := p) (d := d) a b c n e P, hl, hO, hn => by
    have hj := hO j List.mem_cons_self
    show SR K fc (ownAll js ms (j :: O)) (setAll js ds (ρ.set j (some d))) Hd (setV js vs (σ.set j (some (.ref p)))) H
    refine set_all (S.own hj c a b n) (P.ownP hj e) (Nat.succ.inj hl) (fun i hi z => ?_) (List.nodup_cons.mp hn).2
    rcases List.mem_cons.mp z with rfl | z
    · exact (List.nodup_cons.mp hn).1 hi
    · exact hO i (.tail _ hi) z
def parS (js : List Nat) (f : Env → Option (List D × Env)) : Env → Option (Fl × Env) := fun ρ => (f ρ).bind fun x => some (.nx, setAll js x.1 x.2)
theorem pk_len {fc : FC} {ρ : Env} {σ : L2.St} {Hd H : Hp} {vs : List V} {ds : List D} (P : Pk K fc O ρ σ Hd H ms vs ds) : vs.length = ms.length := by
  induction P with
  | nil => rfl
  | dat _ _ ih => rw [List.length_cons, List.length_cons, ih]
  | fre _ _ _ _ _ _ ih => rw [List.length_cons, List.length_cons, ih]
def disj (js O : List Nat) : Bool := (js.all fun j => !O.contains j) && decide js.Nodup
theorem disj_of {js O : List Nat} (h : disj js O = true) : (∀ j ∈ js, j ∉ O) ∧ js.Nodup := by
  obtain ⟨a, b⟩ := Bool.and_eq_true_iff.mp h
  exact ⟨outs a, of_decide_eq_true b⟩
variable {i j l : Nat} {x y z : Str} {a b c : Expr} {px py pz pt pt2 : Pos} {kt k2 : Nat}
theorem s_par (hc : X.calm = true) (hN : X.N.Nodup) (hi : X.N[i]? = some x) (hj : X.N[j]? = some y) (hx : X.env.scope.names.lookup x = some .local) (hy : X.env.scope.names.lookup y = some .local) (ha : PA X [a, b] (tM X.K O ms fs)) (hm : ms.length = 2)
    (hw : swappedStores [.Tuple [.Name x px, .Name y py] kt pt] (.Tuple [a, b] k2 pt2) X.env = pure (some [x, y])) (hO : disj [i, j] O = true := by rfl)
    (hs : swapsWithSole [.Tuple [.Name x px, .Name y py] kt pt] (.Tuple [a, b] k2 pt2) pos.line X.env = pure false := by rfl) :
    PS X (.Assign [.Tuple [.Name x px, .Name y py] kt pt] (.Tuple [a, b] k2 pt2) pos) (tS X.K I L O (ownAll [i, j] ms O) (parS [i, j] fs)) :=
  PS.imp (ps_par hc hN hi hj (fun e => by have := (disj_of hO).2; subst e; simp at this) hx hy ha hw hs) fun Dn σ H ⟨fc, ρ, Hd, fl, ρ', S, io, hf, q⟩ => by
    unfold parS at hf
    obtain ⟨d, h1, hf⟩ := bind_some hf
    cases hf
    refine ⟨fc, ρ, Hd, d.1, d.2, S, h1, fun vs Hd' H' S' e' P => ?_⟩
    have hl := pk_len P
    rw [hm] at hl
    obtain ⟨v, w, rfl⟩ : ∃ v w, vs = [v, w] := by
      match vs, hl with
      | [v, w], _ => exact ⟨v, w, rfl⟩
    exact ⟨v, w, rfl, q Hd' _ H' (set_all S' P (by rw [hm]; rfl) (disj_of hO).1 (disj_of hO).2) e'⟩
theorem s_par3 (hc : X.calm = true) (hN : X.N.Nodup) (hi : X.N[i]? = some x) (hj : X.N[j]? = some y) (hl : X.N[l]? = some z) (hx : X.env.scope.names.lookup x = some .local) (hy : X.env.scope.names.lookup y = some .local) (hz : X.env.scope.names.lookup z = some .local) (ha : PA X [a, b, c] (tM X.K O ms fs)) (hm : ms.length = 3)
    (hw : swappedStores [.Tuple [.Name x px, .Name y py, .Name z pz] kt pt] (.Tuple [a, b, c] k2 pt2) X.env = pure (some [x, y, z])) (hO : disj [i, j, l] O = true := by rfl)
    (hs : swapsWithSole [.Tuple [.Name x px, .Name y py, .Name z pz] kt pt] (.Tuple [a, b, c] k2 pt2) pos.line X.env = pure false := by rfl) :
    PS X (.Assign [.Tuple [.Name x px, .Name y py, .Name z pz] kt pt] (.Tuple [a, b, c] k2 pt2) pos) (tS X.K I L O (ownAll [i, j, l] ms O) (parS [i, j, l] fs)) :=
  PS.imp (ps_par3 hc hN hi hj hl (fun e => by have := (disj_of hO).2; subst e; simp at this) (fun e => by have := (disj_of hO).2; subst e; simp at this) (fun e => by have := (disj_of hO).2; subst e; simp at this) hx hy hz ha hw hs) fun Dn σ H ⟨fc, ρ, Hd, fl, ρ', S, io, hf, q⟩ => by
    unfold parS at hf
    obtain ⟨d, h1, hf⟩ := bind_some hf
    cases hf
    refine ⟨fc, ρ, Hd, d.1, d.2, S, h1, fun vs Hd' H' S' e' P => ?_⟩
    have hl := pk_len P
    rw [hm] at hl
    obtain ⟨v, w, u, rfl⟩ : ∃ v w u, vs = [v, w, u] := by
      match vs, hl with
      | [v, w, u], _ => exact ⟨v, w, u, rfl⟩
    exact ⟨v, w, u, rfl, q Hd' _ H' (set_all S' P (by rw [hm]; rfl) (disj_of hO).1 (disj_of hO).2) e'⟩
/-- .. by way of the tuple -/
theorem gnames_set {js : List Nat} {t : TGs} (h : GNames js t) : ∀ {vs : List V} {σ : L2.St} {H : Hp} {Q : L2.St → Hp → Prop}, vs.length = js.length → Q (setV js vs σ) H → t vs σ H Q := by
  induction h with
  | nil => intro vs σ H Q hl q; cases vs with
    | nil => exact ⟨rfl, q⟩
    | cons => simp at hl
  | @cons j js t _ ih => intro vs σ H Q hl q; cases vs with
    | nil => simp at hl
    | cons v vs => exact ⟨v, vs, rfl, ih (Nat.succ.inj hl) q⟩
theorem pk_upd {fc : FC} {ρ : Env} {σ : L2.St} {Hd H : Hp} {vs : List V} {ds : List D} {p : Addr} {o : HO} (hp : H p = none) (P : Pk K fc O ρ σ Hd H ms vs ds) : Pk K fc O ρ σ Hd (upd H p o) ms vs ds := by
  induction P with
  | nil => exact .nil
  | dat r _ ih => exact .dat r ih
  | fre a b c n e _ ih => exact .fre a b (c.move (Evl.Ex.refl _) fun u hu => by rw [upd_ne (ne_of_none hu hp)]; exact hu) n e ih
theorem s_parT {js : List Nat} {t : TGs} {ts : List Expr} {n : Nat} (hg : PG X (.Tuple ts kt pt) (gTup X.K n t)) (ht : GNames js t) (hn : js.length = n) (ha : PA X es (tM X.K O ms fs)) (hm : ms.length = n) (hz : n ≤ 1000 := by decide) (hO : disj js O = true := by rfl)
    (hs : swapsWithSole [.Tuple ts kt pt] (.Tuple es k2 pt2) pos.line X.env = pure false := by rfl) (hw : swappedStores [.Tuple ts kt pt] (.Tuple es k2 pt2) X.env = pure none := by rfl)
    (h1 : (assignEach [.Tuple ts kt pt] X.env).map (·.2) = [assign (.Tuple ts kt pt) X.env] := by rfl) :
    PS X (.Assign [.Tuple ts kt pt] (.Tuple es k2 pt2) pos) (tS X.K I L O (ownAll js ms O) (parS js fs)) :=
  PS.imp (ps_asg (pe_tup ha) hg hs hw h1) fun Dn σ H ⟨fc, ρ, Hd, fl, ρ', S, io, hf, q⟩ => by
    unfold parS at hf
    obtain ⟨d, h1, hf⟩ := bind_some hf
    cases hf
    refine ⟨fc, ρ, Hd, d.1, d.2, S, h1, fun vs Hd' H' S' e' P => ?_⟩
    have hl := pk_len P
    refine ⟨by rw [hl, hm]; exact small_line hz, fun p hp => ⟨p, vs, rfl, .of upd_same, by omega, gnames_set ht (by omega) ?_⟩⟩
    exact q Hd' _ _ (set_all (S'.grow (Gr.own S'.sub hp)) (pk_upd hp P) (by omega) (disj_of hO).1 (disj_of hO).2) e'
end
end PL

set_option Elab.async false
set_option linter.all false
set_option maxRecDepth 100000
namespace PL
open PySem PySem.Spec PyProof.Rows L2 PySem.W

/-! ### more that is walked -/
section
variable {X : Cx} {K : PySem.W.Frag} {tg e e2 a b c : Expr} {O : List Nat} {f g : Env → Option D} {as : Env → Option (List D)} {pos p : Pos} {per : Bool} {Hd H : Hp}
def keyZ : D → Bool
  | .int _ => true
  | .str z => decide (z.length ≤ 16777216)
  | _ => false
theorem keyZ_rp {k : Key} (h : keyZ (keyD k) = true) : Rp K Hd (kV k) (keyD k) := by
  cases k with
  | inl i => exact .int i
  | inr z => exact .str z (Nat.le_trans (of_decide_eq_true h) line_is)
theorem keyZ_key {k : List Key} : keyZ (keysD k) = false := rfl
def keysL : D → Option (List D)
  | .dict kvs => if (kvs.all fun p => keyZ p.1) = true ∧ kvs.length ≤ 16777216 then some (kvs.map (·.1)) else none
  | _ => none
def keysI (f : Env → Option D) : Env → Option (List D) := fun ρ => (f ρ).bind keysL
theorem keysL_inv {d : D} {l : List D} (h : keysL d = some l) : ∃ kvs, d = .dict kvs ∧ (kvs.all fun p => keyZ p.1) = true ∧ kvs.length ≤ 16777216 ∧ l = kvs.map (·.1) := by
  unfold keysL at h
  split at h
  · split at h
    · rename_i h2
      cases h
      exact ⟨_, rfl, h2.1, h2.2, rfl⟩
    · cases h
  · cases h
theorem it_keys {d : Addr} {o : Obj} {kvs : List (Key × V)} (h : Hd d = some (.frz o (.dK kvs))) (hz : ∀ p ∈ kvs, keyZ (keyD p.1) = true) : ItD K true (Itk d o kvs) Hd H (kvs.map fun p => keyD p.1) := fun i Hd1 H1 a s ex => by
  have q : H1 d = some (.frz o (.dK kvs)) := s _ _ (a _ _ h)
  refine ⟨fun x hx => ?_, fun e => ⟨q, by rw [e, List.length_map]; exact Nat.le_refl _⟩⟩
  rw [List.getElem?_map] at hx
  obtain ⟨⟨k, v⟩, hk, rfl⟩ := Option.map_eq_some_iff.mp hx
  obtain ⟨hlt, _⟩ := List.getElem?_eq_some_iff.mp hk
  refine ⟨⟨q, hlt⟩, fun y H2 ⟨e, k', v', e1, e2⟩ => ⟨Hd1, by rw [e]; exact Gr.refl s, ?_⟩⟩
  rw [hk] at e1
  cases e1
  rw [e2]
  exact keyZ_rp (hz _ (List.mem_of_getElem? hk))
theorem it_keys0 {d : Addr} {o : Obj} (h : Hd d = some (.frz o (.dT []))) : ItD K true (Itkt d o []) Hd H [] := fun i Hd1 H1 a s ex =>
  ⟨fun x hx => (by cases hx), fun e => ⟨s _ _ (a _ _ h), Nat.zero_le _⟩⟩
/-- for k in d, d data -/
theorem i_keys (h : PE X e (tP X.K .dat O f)) : PI X tg e (tI X.K true O (keysI f)) := PI.mk' fun pins s σ H R I ⟨fc, ρ, Hd, l, S, hf, q⟩ => by
  unfold keysI at hf
  obtain ⟨d, h1, hf⟩ := bind_some hf
  obtain ⟨kvs, rfl, hz, hl, rfl⟩ := keysL_inv hf
  refine (pi_keys h).run pins s σ H R I ⟨fc, ρ, Hd, _, S, h1, fun v Hd' H' g r => ?_⟩
  cases r with
  | @scr a ns h1 => simp [keyZ] at hz
  | @kt a xs ds h1 h2 h3 => simp [keyZ] at hz
  | @dK a ws ds k1 k2 =>
    obtain ⟨o, ho⟩ := k1
    have hll := k2.length
    rw [List.length_map] at hll
    have e : ((ws.map fun p => keyD p.1).zip ds).map (·.1) = ws.map fun p => keyD p.1 := List.map_fst_zip (by rw [List.length_map]; omega)
    refine ⟨a, o, rfl, .inl ⟨ws, g.s _ _ ho, q _ Hd' H' g ?_ ?_⟩⟩
    · rw [e]
      refine it_keys ho fun p hp => ?_
      have hm : keyD p.1 ∈ ((ws.map fun p => keyD p.1).zip ds).map (·.1) := by rw [e]; exact List.mem_map.mpr ⟨p, hp, rfl⟩
      obtain ⟨x, hx, ex⟩ := List.mem_map.mp hm
      rw [← ex]
      exact List.all_eq_true.mp hz x hx
    · rw [List.length_map]
      exact Nat.le_trans hl line_is
  | @dT a ws ds k1 k2 =>
    obtain ⟨o, ho⟩ := k1
    cases ws with
    | nil => exact ⟨a, o, rfl, .inr ⟨[], g.s _ _ ho, q _ Hd' H' g (by rw [List.map_nil, List.zip_nil_left]; exact it_keys0 ho) (Nat.zero_le _)⟩⟩
    | cons p r =>
      cases k2 with
      | cons r1 r2 =>
        rw [List.map_cons, List.zip_cons_cons, List.all_cons, keyZ_key] at hz
        simp at hz
/-! zip -/
def zipL : D → D → Option (List D)
  | .list xs, .list ys => some ((xs.zip ys).map fun p => kt [p.1, p.2])
  | .tuple xs, .tuple ys => some ((xs.zip ys).map fun p => kt [p.1, p.2])
  | _, _ => none
def zipA : List D → Option (List D)
  | [x, y] => zipL x y
  | _ => none
def zipI (as : Env → Option (List D)) : Env → Option (List D) := fun ρ => (as ρ).bind zipA
theorem zip_item {J : It} {xs ys : List V} {ds es : List D} (rx : Rps K Hd xs ds) (ry : Rps K Hd ys es)
    (go : ∀ i Hd1 H1, Ex Hd Hd1 → Ex Hd1 H1 → ∀ x y, xs[i]? = some x → ys[i]? = some y → J.go i H1 ∧ ∀ v H2, J.yld i H1 v H2 → ∃ T, v = .ref T ∧ H1 T = none ∧ H2 = upd H1 T (.tup [x, y]))
    (stop : ∀ i Hd1 H1, Ex Hd Hd1 → Ex Hd1 H1 → xs.length ≤ i ∨ ys.length ≤ i → J.stop i H1) : ItD K true J Hd H ((ds.zip es).map fun p => kt [p.1, p.2]) := fun i Hd1 H1 a s ex => by
  refine ⟨fun d hd => ?_, fun e => stop i Hd1 H1 a s ?_⟩
  · rw [List.getElem?_map] at hd
    obtain ⟨⟨d1, d2⟩, hp, rfl⟩ := Option.map_eq_some_iff.mp hd
    rw [List.getElem?_zip_eq_some] at hp
    obtain ⟨v1, hv1, r1⟩ := rx.get hp.1
    obtain ⟨v2, hv2, r2⟩ := ry.get hp.2
    obtain ⟨g1, g2⟩ := go i Hd1 H1 a s v1 v2 hv1 hv2
    refine ⟨g1, fun x H2 hy => ?_⟩
    obtain ⟨T, rfl, hT, rfl⟩ := g2 x H2 hy
    have gr := Gr.dat (o := .tup [v1, v2]) s hT
    exact ⟨_, gr, .kt upd_same (.cons ((r1.mono a).mono gr.d) (.cons ((r2.mono a).mono gr.d) .nil)) (by rw [sizeLine_eq]; show 2 ≤ _; omega)⟩
  · rw [List.length_map, List.length_zip] at e
    have := rx.length
    have := ry.length
    omega
theorem i_zip {elts : List Expr} {kk : Nat} {tpos : Pos} (hg : Gl X "zip") (hm : X.mg "zip" = none) (ha : PA X [e, e2] (tPs X.K .dat O as)) (hl : LenA as 2)
    (hs : starEach [e, e2] X.env = (false, eval e X.env) :: starEach [e2] X.env := by rfl) (hpl : (backTo pos (starEach [e2] X.env)).any (·.1) = false := by rfl) :
    PI X (.Tuple elts kk tpos) (.Call (.Name "zip" p) [e, e2] [] pos) (tI X.K true O (zipI as)) := PI.mk' fun pins s σ H R I ⟨fc, ρ, Hd, l, S, hf, q⟩ => by
  unfold zipI at hf
  obtain ⟨ds, h1, hf⟩ := bind_some hf
  have hlen := hl _ _ h1
  obtain ⟨d1, d2, rfl⟩ : ∃ d1 d2, ds = [d1, d2] := by
    match ds, hlen with
    | [a, b], _ => exact ⟨a, b, rfl⟩
  refine (RZ.pi_zipA hg hm ha hs hpl).run pins s σ H R I ⟨fc, ρ, Hd, _, S, h1, fun vs Hd' H' g r => ?_⟩
  have hf' : zipL d1 d2 = some l := hf
  unfold zipL at hf'
  split at hf'
  · cases hf'
    cases r with
    | cons r1 r =>
      cases r with
      | cons r2 r =>
        cases r
        cases r1 with
        | @lst a xs _ a1 a2 a3 =>
          cases r2 with
          | @lst b ys _ b1 b2 b3 =>
            refine ⟨a, b, xs, ys, rfl, .inl ⟨.inl (rd_mono g.s a1), .inl (rd_mono g.s b1), q _ Hd' H' g (zip_item a2 b2 (fun i Hd1 H1 e1 e2 x y hx hy => ?_) fun i Hd1 H1 e1 e2 h => ?_) ?_⟩⟩
            · have qa : SqL X.K H1 a xs := .inl (rd_mono (e1.trans e2) a1)
              have qb : SqL X.K H1 b ys := .inl (rd_mono (e1.trans e2) b1)
              refine ⟨⟨xs, ys, x, y, qa, qb, hx, hy⟩, fun v H2 ⟨T, x', y', t1, t2, t3, t4, t5⟩ => ⟨T, t1, t2, ?_⟩⟩
              have z1 := t4 xs qa
              have z2 := t5 ys qb
              rw [hx] at z1
              rw [hy] at z2
              cases z1
              cases z2
              exact t3
            · exact ⟨xs, ys, .inl (rd_mono (e1.trans e2) a1), .inl (rd_mono (e1.trans e2) b1), h⟩
            · rw [List.length_map, List.length_zip, ← a2.length]
              omega
  · cases hf'
    cases r with
    | cons r1 r =>
      cases r with
      | cons r2 r =>
        cases r
        cases r1 with
        | @tup a xs _ a1 a2 a3 =>
          cases r2 with
          | @tup b ys _ b1 b2 b3 =>
            refine ⟨a, b, xs, ys, rfl, .inr ⟨(tu_mono g.s a1).sq, (tu_mono g.s b1).sq, q _ Hd' H' g (zip_item a2 b2 (fun i Hd1 H1 e1 e2 x y hx hy => ?_) fun i Hd1 H1 e1 e2 h => ?_) ?_⟩⟩
            · have qa : SqT X.K H1 a xs := (tu_mono (e1.trans e2) a1).sq
              have qb : SqT X.K H1 b ys := (tu_mono (e1.trans e2) b1).sq
              refine ⟨⟨xs, ys, x, y, qa, qb, hx, hy⟩, fun v H2 ⟨T, x', y', t1, t2, t3, t4, t5⟩ => ⟨T, t1, t2, ?_⟩⟩
              have z1 := t4 xs qa
              have z2 := t5 ys qb
              rw [hx] at z1
              rw [hy] at z2
              cases z1
              cases z2
              exact t3
            · exact ⟨xs, ys, (tu_mono (e1.trans e2) a1).sq, (tu_mono (e1.trans e2) b1).sq, h⟩
            · rw [List.length_map, List.length_zip, ← a2.length]
              omega
  · cases hf'
/-! range(a, b, -1) -/
def rngD3 : List D → Option (List D)
  | [.int lo, .int hi, .int (-1)] => if -16777216 ≤ lo ∧ lo ≤ 16777216 ∧ -16777216 ≤ hi ∧ hi ≤ 16777216 ∧ (lo - hi).toNat ≤ 16777216 then some ((List.range (lo - hi).toNat).map fun (i : Nat) => PyData.int (lo - (i : Int))) else none
  | _ => none
def rng3 (as : Env → Option (List D)) : Env → Option (List D) := fun ρ => (as ρ).bind rngD3
theorem i_rng3 (hg : Gl X "range") (hm : X.mg "range" = none) (ha : PA X [a, b, c] (tPs X.K .bor O as))
    (hs : starEach [a, b, c] X.env = (false, eval a X.env) :: starEach [b, c] X.env := by rfl) (hpl : (backTo pos (starEach [b, c] X.env)).any (·.1) = false := by rfl) :
    PI X tg (.Call (.Name "range" p) [a, b, c] [] pos) (tI X.K per O (rng3 as)) := PI.mk' fun pins s σ H R I ⟨fc, ρ, Hd, l, S, hf, q⟩ => by
  unfold rng3 at hf
  obtain ⟨ds, h1, hf⟩ := bind_some hf
  unfold rngD3 at hf
  split at hf
  case h_2 => cases hf
  rename_i lo hi
  split at hf
  case isFalse => cases hf
  rename_i hb
  cases hf
  refine (pi_range3 hg hm ha hs hpl).run pins s σ H R I ⟨fc, ρ, Hd, _, S, h1, fun vs Hd' H' g r => ?_⟩
  cases r with
  | cons r1 r =>
    cases r with
    | cons r2 r =>
      cases r with
      | cons r3 r =>
        cases r
        cases r1
        cases r2
        cases r3
        refine ⟨lo, hi, -1, (lo - hi).toNat, rfl, RgC.neg (by omega) (by omega) (by omega) (by omega), q _ Hd' H' g (fun i Hd1 H1 a1 s1 ex => ⟨fun d hd => ?_, fun e => ?_⟩) ?_⟩
        · rw [List.getElem?_map] at hd
          by_cases hi' : i < (lo - hi).toNat
          · rw [List.getElem?_range hi'] at hd
            cases hd
            refine ⟨hi', fun x H2 ⟨e, y⟩ => ⟨Hd1, by rw [e]; exact Gr.refl s1, ?_⟩⟩
            rw [y, show lo + (i : Int) * -1 = lo - (i : Int) by omega]
            exact .int _
          · rw [List.getElem?_eq_none (by rw [List.length_range]; omega)] at hd
            cases hd
        · rw [List.length_map, List.length_range] at e
          show (lo - hi).toNat ≤ i
          omega
        · rw [List.length_map, List.length_range, sizeLine_eq]
          omega
end
end PL

set_option Elab.async false
set_option linter.all false
set_option maxRecDepth 100000
namespace PL
open PySem PySem.Spec PyProof.Rows L2 PySem.W

/-! ### x[::-1] -/
section
variable {prog : Program} {w : World} {A : Around} {E : Value → Shared → Prop} {s : Shared}
theorem adjust_rev (n : Nat) : Builtin.Slice.sliceAdjust none none (-1) (n : Int) = ((n : Int) - 1, -1) := by
  unfold Builtin.Slice.sliceAdjust
  rfl
theorem places_rev (n : Nat) : Builtin.Slice.slicePlaces ((n : Int) - 1) (-1) (-1) = n := by
  unfold Builtin.Slice.slicePlaces
  have h1 : ¬ ((-1 : Int) > 0) := by omega
  have h2 : (- -1 : Int) = 1 := by omega
  simp only [h1, if_false, h2, Int.ediv_one]
  split <;> omega
theorem fm_map {α β : Type} {f : α → Option β} {g : α → β} : ∀ {l : List α}, (∀ a ∈ l, f a = some (g a)) → l.filterMap f = l.map g
  | [], _ => rfl
  | a :: l, h => by rw [List.filterMap_cons, h a List.mem_cons_self, List.map_cons, fm_map fun b hb => h b (.tail _ hb)]
theorem sliceApplied_rev {sl : Addr} {vs : Value} {n : Nat} {Q : Int × Int × Nat → Shared → Prop} (hs : s.heap.IsSliceOf sl .none .none vs) (ps : IsPart vs (some (-1)))
    (h : Q ((n : Int) - 1, -1, n) s) : wpAny (model prog w) A (Builtin.Slice.sliceApplied (.ref sl) (pure (n : Int))) Q E s := by
  obtain ⟨os, hos, hcs, hds⟩ := id hs
  unfold Builtin.Slice.sliceApplied Builtin.Slice.sliceFields
  refine wpAny_bind (wpAny_bind (wpAny_field hos hds (x := .none) rfl (wpAny_bind (wpAny_field hos hds (x := .none) rfl (wpAny_bind (wpAny_field hos hds (x := vs) rfl (wpAny_pure ?_)))))))
  refine wpAny_bind (HT.slicePart_ ps ?_)
  show wpAny _ _ (if ((-1 : Int) == 0) = true then _ else _) _ _ s
  rw [if_neg (by decide)]
  refine wpAny_bind (slicePart_none (wpAny_bind (slicePart_none (wpAny_bind (wpAny_pure ?_)))))
  show wpAny _ _ (match Builtin.Slice.sliceAdjust none none (-1) (n : Int) with | (lo, hi) => pure (lo, (-1 : Int), Builtin.Slice.slicePlaces lo hi (-1))) _ _ s
  rw [adjust_rev n]
  show wpAny _ _ (pure ((n : Int) - 1, (-1 : Int), Builtin.Slice.slicePlaces ((n : Int) - 1) (-1) (-1))) _ _ s
  rw [places_rev]
  exact wpAny_pure h
theorem pick_rev (xs : Array Value) : ((List.range xs.size).filterMap fun (m : Nat) => xs[(((xs.size : Nat) : Int) - 1 + (m : Int) * -1).toNat]?).toArray = xs.toList.reverse.toArray := by
  congr 1
  apply List.ext_getElem?
  intro i
  have e : ((List.range xs.size).filterMap fun (m : Nat) => xs[(((xs.size : Nat) : Int) - 1 + (m : Int) * -1).toNat]?) = (List.range xs.size).map fun m => (xs[xs.size - 1 - m]?).getD .none := by
    refine fm_map fun m hm => ?_
    have hm' := List.mem_range.mp hm
    rw [show (((xs.size : Nat) : Int) - 1 + (m : Int) * -1).toNat = xs.size - 1 - m by omega]
    have : xs.size - 1 - m < xs.size := by omega
    rw [Array.getElem?_eq_getElem this]
    rfl
  rw [e, List.getElem?_map]
  by_cases hi : i < xs.size
  · rw [List.getElem?_range hi, List.getElem?_reverse (by rw [Array.length_toList]; exact hi), Array.length_toList, Array.getElem?_toList]
    have : xs.size - 1 - i < xs.size := by omega
    show some ((xs[xs.size - 1 - i]?).getD Value.none) = _
    rw [Array.getElem?_eq_getElem this]
    rfl
  · rw [List.getElem?_eq_none (by rw [List.length_range]; omega), List.getElem?_eq_none (by rw [List.length_reverse, Array.length_toList]; omega)]
    rfl
theorem getItem_tuple_rev {t sl : Addr} {items : Array Value} {vs : Value} {Q : Value → Shared → Prop} (ht : IsTup s.heap t items) (hs : s.heap.IsSliceOf sl .none .none vs) (ps : IsPart vs (some (-1)))
    (h : Q (.ref s.heap.objs.size) { s with heap := s.heap.push { cls := .type "tuple", data := .seq items.toList.reverse.toArray } })
    (hsz : items.size ≤ sizeLine) : wpAny (model prog w) A (getItem (.ref t) (.ref sl)) Q E s := by
  have htake : sizeOk (.seq items.toList.reverse.toArray) := by
    show items.toList.reverse.toArray.size ≤ sizeLine
    rw [List.size_toArray, List.length_reverse, Array.length_toList]
    exact hsz
  obtain ⟨os, hos, hcs, hds⟩ := id hs
  have hTs : s.TypeIs (.ref sl) "slice" := ⟨os, hos, hcs⟩
  unfold getItem
  try with_reducible refine wpAny_holding ?_
  first | refine wpAny_bind (wpAny_pure ?_) | skip
  refine wpAny_bind (wpAny_sequenceKey ht.typeIs (by decide) ?_)
  refine wpAny_bind (wpAny_callSpecial?_slot (name := Str.ofString "__getitem__") ht.typeIs PyProof.Rows.slot_tuple_getitem
    (wpAny_call_entry PyProof.Rows.slot_tuple_getitem ht.typeIs entry_tuple_getitem ?_ (args_tuple_getitem _ _)))
  show wpAny _ _ (Builtin.Tuple.tupleItemsOf (.ref t) >>= _) _ _ s
  refine wpAny_bind (tupleItemsOf_ ht ?_)
  refine wpAny_bind (wpAny_typeOf hTs ?_)
  rw [if_pos (by decide)]
  refine wpAny_bind (sliceApplied_rev hs ps ?_)
  show wpAny _ _ (if (((items.size : Int) - 1) == 0 && (-1 : Int) == 1 && items.size == items.size) = true then _ else _) _ _ s
  rw [if_neg (by rw [show ((-1 : Int) == 1) = false from rfl, Bool.and_false, Bool.false_and]; exact Bool.false_ne_true), pick_rev]
  first
    | exact wpAny_bind (m := Builtin.Tuple.tupleExact _) (wpAny_newObj_type (wpAny_pure ⟨_, rfl, wpAny_pure h⟩) htake)
    | exact wpAny_bind (m := Builtin.Tuple.tupleExact _) (wpAny_newObj_type (wpAny_bind (wpAny_pure (wpAny_pure ⟨_, rfl, wpAny_pure h⟩))) htake)
    | exact wpAny_bind (wpAny_bind (m := Builtin.Tuple.tupleExact _) (wpAny_newObj_type (wpAny_pure (wpAny_pure ⟨_, rfl, wpAny_pure h⟩)) htake))
    | exact wpAny_bind (wpAny_bind (m := Builtin.Tuple.tupleExact _) (wpAny_newObj_type (wpAny_pure ⟨_, rfl, wpAny_pure h⟩) htake))
end
def revS (z : Str) : Str := ⟨z.cps.toList.reverse.toArray⟩
def revD : D → Option D
  | .list ds => some (.list ds.reverse)
  | .tuple ds => some (.tuple ds.reverse)
  | .str z => some (.str (revS z))
  | _ => none
def rRev (K : PySem.W.Frag) : V → Hp → VK → Prop := fun x H Q => (∃ a xs, x = .ref a ∧ SqL K H a xs ∧ ∀ p, H p = none → Q (.ref p) (upd H p (.lst xs.reverse))) ∨
  (∃ a xs, x = .ref a ∧ SqT K H a xs ∧ NewT H xs.reverse Q) ∨ (∃ z, x = .str z ∧ z.length ≤ sizeLine ∧ Q (.str (revS z)) H)
section
variable {X : Cx} {e : Expr} {te : TE} {k : Nat} {p1 p2 p3 pos : Pos}
theorem revS_of (z : Str) : (⟨((Builtin.Str.strSliceIndices none none (-1) z.length).filterMap (z.cps[·]?)).toArray⟩ : Str) = revS z := by
  unfold revS
  congr 2
  rw [picked_rev]
  have hl : z.length = z.cps.size := rfl
  rw [hl]
  apply List.ext_getElem?
  intro i
  have e : ((List.range z.cps.size).map fun k => z.cps.size - 1 - k).filterMap (z.cps[·]?) = (List.range z.cps.size).map fun m => (z.cps[z.cps.size - 1 - m]?).getD 0 := by
    rw [List.filterMap_map]
    refine fm_map fun m hm => ?_
    have hm' := List.mem_range.mp hm
    have : z.cps.size - 1 - m < z.cps.size := by omega
    show z.cps[z.cps.size - 1 - m]? = some ((z.cps[z.cps.size - 1 - m]?).getD 0)
    rw [Array.getElem?_eq_getElem this]
    rfl
  rw [e, List.getElem?_map]
  by_cases hi : i < z.cps.size
  · rw [List.getElem?_range hi, List.getElem?_reverse (by rw [Array.length_toList]; exact hi), Array.length_toList, Array.getElem?_toList]
    have : z.cps.size - 1 - i < z.cps.size := by omega
    show some ((z.cps[z.cps.size - 1 - i]?).getD 0) = _
    rw [Array.getElem?_eq_getElem this]
    rfl
  · rw [List.getElem?_eq_none (by rw [List.length_range]; omega), List.getElem?_eq_none (by rw [List.length_reverse, Array.length_toList]; omega)]
    rfl
theorem pe_rev3 (he : PE X e te) : PE X (.Subscript e (.Slice none none (some (.UnaryOp .USub (.Constant (.int 1) k p1) p2)) p3) pos) (fun σ H Q => te σ H fun x H1 => rRev X.K x H1 Q) := by
  refine ⟨fun pins s σ H Q I h => ?_⟩
  refine Subscript_ (thn (he.run pins s σ H _ I h) fun v s1 ⟨x, H1, I1, r1, q1⟩ => ?_)
  have hst : PO X (some (.UnaryOp .USub (.Constant (.int 1) k p1) p2)) (tPart (tUn (rU fun i => .int (-i)) (tC (.int 1)))) := po_some (pe_un un_neg pe_int)
  refine wpAny_Slice (thn (po_none.run pins s1 σ H1 (fun o H2 => o = none ∧ H2 = H1) I1 ⟨rfl, rfl⟩) fun vl s2 ⟨l, H2, I2, pl, el, e2⟩ => ?_)
  subst el e2
  refine thn (po_none.run pins s2 σ H2 (fun o H3 => o = none ∧ H3 = H2) I2 ⟨rfl, rfl⟩) fun vu s3 ⟨u, H3, I3, pu, eu, e3⟩ => ?_
  subst eu e3
  refine thn (hst.run pins s3 σ H3 (fun o H4 => o = some (-1) ∧ H4 = H3) I3 ⟨1, rfl, -1, rfl, rfl, rfl⟩) fun vs s4 ⟨o, H4, I4, ps, eo, e4⟩ => ?_
  subst eo e4
  have I5 : Inv X pins σ H4 { s4 with heap := s4.heap.push { cls := .type "slice", data := .fields #[vl, vu, vs] } } := I4.kept (t' := s4.toks) fun b ob q => Heap.get?_push_of_some _ q
  cases pl
  cases pu
  rcases q1 with ⟨a, xs, rfl, hx, q⟩ | ⟨a, xs, rfl, hx, q⟩ | ⟨z, rfl, hz, q⟩
  · cases r1
    obtain ⟨its, r, ht, hz⟩ := I5.list hx
    have hlen := r.length
    show wpAny (model X.prog X.w) X.A (subscriptTail e (.Slice none none (some (.UnaryOp .USub (.Constant (.int 1) k p1) p2)) p3) (.ref a) (.ref s4.heap.objs.size)) (EP X pins σ Q) X.xe { s4 with heap := s4.heap.push { cls := .type "slice", data := .fields #[.none, .none, vs] } }
    refine tail_any (ops := [.ref a, .ref s4.heap.objs.size]) ht.isList.typeIs (PySem.slot_list_getitem.lookup) ?_ (by with_unfolding_all rfl)
    refine wpAny_getItem_list_slice ht.isList (Heap.IsSliceOf.new _ .none .none vs) .none .none ps (by decide) ?_ (by rw [List.size_toArray]; omega)
    rw [PySem.W.krv_pick]
    refine ⟨.ref _, _, I5.laid (t' := s4.toks) (o := .lst xs.reverse) (fun b ob q => Heap.get?_push_of_some _ q) (Nat.le_refl _) ?_, rfl, q _ (I5.hok.fresh (Nat.le_refl _))⟩
    exact ⟨by rw [List.length_reverse]; exact hz, _, 0, r.reverse, Heap.get?_push_size _ rfl⟩
  · cases r1
    obtain ⟨its, r, ht, hz⟩ := I5.tuple hx
    have hlen := r.length
    show wpAny (model X.prog X.w) X.A (subscriptTail e (.Slice none none (some (.UnaryOp .USub (.Constant (.int 1) k p1) p2)) p3) (.ref a) (.ref s4.heap.objs.size)) (EP X pins σ Q) X.xe { s4 with heap := s4.heap.push { cls := .type "slice", data := .fields #[.none, .none, vs] } }
    refine tail_any (ops := [.ref a, .ref s4.heap.objs.size]) ht.typeIs (PyProof.Rows.slot_tuple_getitem.lookup) ?_ (by with_unfolding_all rfl)
    refine getItem_tuple_rev ht (Heap.IsSliceOf.new _ .none .none vs) ps ?_ (by rw [List.size_toArray]; omega)
    exact new_tup (tk := s4.toks) I5 r.reverse (by rw [List.length_reverse]; exact hz) q
  · obtain ⟨t, rfl⟩ := r1
    obtain ⟨st, rfl, est⟩ := IsPart.raw ps
    cases st with
    | none => cases est
    | some st =>
    obtain ⟨st, tk⟩ := st
    have e1 : st = -1 := by simpa using est
    subst e1
    show wpAny (model X.prog X.w) X.A (subscriptTail e (.Slice none none (some (.UnaryOp .USub (.Constant (.int 1) k p1) p2)) p3) (.str z t) (.ref s4.heap.objs.size)) (EP X pins σ Q) X.xe { s4 with heap := s4.heap.push { cls := .type "slice", data := .fields #[.none, .none, _] } }
    refine tail_any (ops := [.str z t, .ref s4.heap.objs.size]) (typeIs_str _ z t) (PySem.F.slot_str_getitem.lookup) ?_ (by with_unfolding_all rfl)
    refine wpAny_getItem_str_slice (l := none) (u := none) (st := some (-1, tk)) (Heap.IsSliceOf.new _ .none .none _) rfl ?_
    have hl : (revS z).length ≤ sizeLine := by
      show (z.cps.toList.reverse.toArray).size ≤ sizeLine
      rw [List.size_toArray, List.length_reverse, Array.length_toList]
      exact hz
    show Made.post (if ((-1 : Int) == 1 && (Builtin.Str.strSliceIndices none none (-1) z.length).length == z.length) = true then Made.val (.str z t)
      else Made.str ⟨((Builtin.Str.strSliceIndices none none (-1) z.length).filterMap (z.cps[·]?)).toArray⟩) (EP X pins σ Q) _
    rw [if_neg (by rw [show ((-1 : Int) == 1) = false from rfl, Bool.false_and]; exact Bool.false_ne_true), revS_of]
    exact ⟨hl, .str _, H4, I5.tok _, ⟨_, rfl⟩, q⟩
end
end PL

set_option Elab.async false
set_option linter.all false
set_option maxRecDepth 100000
namespace PL
open PySem PySem.Spec PyProof.Rows L2 PySem.W

section
variable {X : Cx} {K : PySem.W.Frag} {e a b c o : Expr} {O : List Nat} {f g h : Env → Option D} {m : Md} {pos p p1 p2 p3 apos cpos : Pos} {k : Nat} {Hd H : Hp}
/-! x[::-1] -/
theorem revS_len (z : Str) : (revS z).length = z.length := by
  show (z.cps.toList.reverse.toArray).size = z.cps.size
  rw [List.size_toArray, List.length_reverse, Array.length_toList]
theorem p_rev (ha : PE X e (tP X.K .bor O f)) : PE X (.Subscript e (.Slice none none (some (.UnaryOp .USub (.Constant (.int 1) k p1) p2)) p3) pos) (tP X.K .dat O (op1 revD f)) := PE.imp (pe_rev3 ha) fun σ H Q ⟨fc, ρ, Hd, z, S, hf, q⟩ => by
  unfold op1 at hf
  obtain ⟨d, h1, hf⟩ := bind_some hf
  refine ⟨fc, ρ, Hd, d, S, h1, fun v Hd1 H1 g r => ?_⟩
  unfold revD at hf
  split at hf
  · cases hf
    cases r with
    | @lst a xs _ k1 k2 hz => exact .inl ⟨a, xs, rfl, .inl k1, fun p hp => q _ _ _ (g.trans (Gr.dat g.s hp)) (.lst (.of upd_same) ((rps_rev k2).mono (ex_upd (Evl.fresh_back g.s hp))) (by rw [List.length_reverse]; exact hz))⟩
  · cases hf
    cases r with
    | @tup a xs _ k1 k2 hz => exact .inr (.inl ⟨a, xs, rfl, (tu_mono (g.s) k1).sq, fun p o hp ho => q _ _ _ (g.trans (Gr.dat g.s hp)) (.tup (TU.new ho) ((rps_rev k2).mono (ex_upd (Evl.fresh_back g.s hp))) (by rw [List.length_reverse]; exact hz))⟩)
  · cases hf
    cases r with
    | str _ hz => exact .inr (.inr ⟨_, rfl, hz, q _ _ _ g (.str _ (by rw [revS_len]; exact hz))⟩)
  · cases hf
where
  rps_rev {Hd : Hp} : ∀ {vs : List V} {ds : List D}, Rps X.K Hd vs ds → Rps X.K Hd vs.reverse ds.reverse
    | [], [], .nil => .nil
    | _ :: _, _ :: _, .cons r t => by
      rw [List.reverse_cons, List.reverse_cons]
      exact (rps_rev t).append (Rps.one r)
def revL : D → Option D
  | .list ds => some (.list ds.reverse)
  | _ => none
theorem p_revF (ha : PE X e (tP X.K .bor O f)) : PE X (.Subscript e (.Slice none none (some (.UnaryOp .USub (.Constant (.int 1) k p1) p2)) p3) pos) (tP X.K .fre O (op1 revL f)) := PE.imp (pe_rev3 ha) fun σ H Q ⟨fc, ρ, Hd, z, S, hf, q⟩ => by
  unfold op1 at hf
  obtain ⟨d, h1, hf⟩ := bind_some hf
  refine ⟨fc, ρ, Hd, d, S, h1, fun v Hd1 H1 g r => ?_⟩
  unfold revL at hf
  split at hf
  · cases hf
    cases r with
    | @lst a xs _ k1 k2 hz => exact .inl ⟨a, xs, rfl, .inl k1, fun p hp => q _ Hd1 _ (g.trans (Gr.own g.s hp)) ⟨p, rfl, Evl.fresh_back g.h hp, Evl.fresh_back g.s hp, .lst upd_same (p_rev.rps_rev k2) (by rw [List.length_reverse]; exact hz)⟩⟩
  · cases hf
/-! isinstance(x, T) -/
inductive Ty where
  | int | bool | str | tuple | list | dict
def Ty.nm : Ty → String
  | .int => "int"
  | .bool => "bool"
  | .str => "str"
  | .tuple => "tuple"
  | .list => "list"
  | .dict => "dict"
def Ty.is : Ty → D → Bool
  | .int => PyData.isInt
  | .bool => PyData.isBool
  | .str => PyData.isStr
  | .tuple => PyData.isTuple
  | .list => PyData.isList
  | .dict => PyData.isDict
def instD (T : Ty) (d : D) : Option D := if cln d then some (.bool (T.is d)) else none
def rInst (K : PySem.W.Frag) (T : Ty) : List V → Hp → VK → Prop := fun xs H Q => ∃ Hd x d, xs = [x, .ty T.nm] ∧ Ex Hd H ∧ Rp K Hd x d ∧ cln d = true ∧ Q (.bl (T.is d)) H
theorem cr_inst (T : Ty) : CallR X (.builtin "isinstance") (rInst X.K T) := by
  intro pins s σ H xs us Q I r ⟨Hd, x, d, ex, eh, rx, hc, q⟩
  subst ex
  cases r with
  | cons r1 r =>
    cases r with
    | cons r2 r =>
      cases r
      rename_i u1 u2
      cases (show u2 = Value.type T.nm from r2)
      obtain ⟨as, rd⟩ := (rx.mono eh).reads I hc u1 r1
      have fin : ∀ tk, s.toks ≤ tk → EP X pins σ Q (.bool (T.is d)) { s with toks := tk } := fun tk _ => ⟨.bl _, H, I.tok _, rfl, q⟩
      cases T with
      | int => exact isinstance_int_data rd fin
      | bool => exact isinstance_bool_data rd fin
      | str => exact isinstance_str_data rd fin
      | tuple => exact isinstance_tuple_data rd fin
      | list => exact isinstance_list_data rd fin
      | dict => exact isinstance_dict_data rd fin
theorem p_inst {x : Str} (T : Ty) (hg : Gl X "isinstance") (hm : X.mg "isinstance" = none) (ha : PE X e (tP X.K .dat O f)) (hg2 : Gl X x) (hm2 : X.mg x = none) (hv2 : bootBuiltins x = some (.type T.nm)) (hn : x ≠ "__name__" := by decide) (hd : (x == ("__debug__" : Str)) = false := by decide) 
    (he : starEach [e, .Name x p2] X.env = (false, eval e X.env) :: starEach [.Name x p2] X.env := by rfl) (he2 : starEach [.Name x p2] X.env = (false, eval (.Name x p2) X.env) :: starEach [] X.env := by rfl) (hpl : (backTo pos (starEach [.Name x p2] X.env)).any (·.1) = false := by rfl) :
    PE X (.Call (.Name "isinstance" p) [e, .Name x p2] [] pos) (tP X.K .dat O (op1 (instD T) f)) :=
  PE.imp (pe_callB (cr_inst T) hg hm PyProof.Rows.boot_isinstance (pa_cons ha (pa_cons (pe_bltn (v := .ty T.nm) hg2 hm2 hv2 rfl hn hd) pa_nil he2) he) (by decide) (by decide) he hpl) fun σ H Q ⟨fc, ρ, Hd, z, S, hf, q⟩ => by
    unfold op1 at hf
    obtain ⟨d, h1, hf⟩ := bind_some hf
    unfold instD at hf
    split at hf
    · rename_i hc
      cases hf
      exact ⟨fc, ρ, Hd, d, S, h1, fun v Hd1 H1 g r => ⟨Hd1, v, d, rfl, g.s, r, hc, q _ Hd1 H1 g (.bl _)⟩⟩
    · cases hf
/-! a.join(xs) -/
def joinS (a : Str) (ds : List D) : Option D := (strsD ds).bind fun ys => if (ys.map (·.length)).sum + ys.length * a.length ≤ 16777216 ∧ (Txt.join a ys).length ≤ 16777216 then some (.str (Txt.join a ys)) else none
def joinD (a d : D) : Option D := match a, d with
  | .str a, .list ds => joinS a ds
  | .str a, .tuple ds => joinS a ds
  | _, _ => none
theorem joinS_inv {a : Str} {ds : List D} {z : D} (h : joinS a ds = some z) : ∃ ys, ds = ys.map .str ∧ (ys.map (·.length)).sum + ys.length * a.length ≤ 16777216 ∧ (Txt.join a ys).length ≤ 16777216 ∧ z = .str (Txt.join a ys) := by
  unfold joinS at h
  obtain ⟨ys, h1, h⟩ := bind_some h
  split at h
  · rename_i h2
    cases h
    exact ⟨ys, strsD_eq h1, h2.1, h2.2, rfl⟩
  · cases h
theorem p_join (ho : PE X o (tP X.K .bor O f)) (he : PE X e (tP X.K .bor O g)) (hs : starEach [e] X.env = [(false, eval e X.env)] := by rfl) (hbase : attributeBase o "join" X.env (eval o X.env) = eval o X.env := by rfl) (hline : (apos.endLine == pos.line) = true := by rfl) :
    PE X (.Call (.Attribute o "join" apos) [e] [] pos) (tP X.K .dat O (op2 joinD f g)) := PE.imp (pe_join ho he hs hbase hline) fun σ H Q ⟨fc, ρ, Hd, z, S, hf, q⟩ => by
  unfold op2 at hf
  obtain ⟨d1, h1, hf⟩ := bind_some hf
  obtain ⟨d2, h2, hf⟩ := bind_some hf
  refine ⟨fc, ρ, Hd, d1, S, h1, fun v Hd1 H1 g1 r1 => ?_⟩
  unfold joinD at hf
  split at hf
  · obtain ⟨ys, rfl, z1, z2, rfl⟩ := joinS_inv hf
    cases r1
    refine ⟨⟨_, rfl⟩, fc, ρ, Hd1, _, S.grow g1, h2, fun v2 Hd2 H2 g2 r2 => ?_⟩
    cases r2 with
    | @lst a xs _ k1 k2 hz =>
      have e := Rps.strs k2
      subst e
      exact ⟨_, a, ys, rfl, rfl, .inl (.inl k1), z1, q _ Hd2 H2 (g1.trans g2) (.str _ (Nat.le_trans z2 line_is))⟩
  · obtain ⟨ys, rfl, z1, z2, rfl⟩ := joinS_inv hf
    cases r1
    refine ⟨⟨_, rfl⟩, fc, ρ, Hd1, _, S.grow g1, h2, fun v2 Hd2 H2 g2 r2 => ?_⟩
    cases r2 with
    | @tup a xs _ k1 k2 hz =>
      have e := Rps.strs k2
      subst e
      exact ⟨_, a, ys, rfl, rfl, .inr ((tu_mono (g2.s) k1).sq), z1, q _ Hd2 H2 (g1.trans g2) (.str _ (Nat.le_trans z2 line_is))⟩
  · cases hf
/-- the same, the list made with an effect -/
theorem p_joinE {fe ge : Env → Option (D × Env)} (ho : PE X o (tE X.K O fe)) (he : PE X e (tE X.K O ge)) (hs : starEach [e] X.env = [(false, eval e X.env)] := by rfl) (hbase : attributeBase o "join" X.env (eval o X.env) = eval o X.env := by rfl) (hline : (apos.endLine == pos.line) = true := by rfl) :
    PE X (.Call (.Attribute o "join" apos) [e] [] pos) (tE X.K O (op2E joinD fe ge)) := PE.imp (pe_join ho he hs hbase hline) fun σ H Q ⟨fc, ρ, Hd, z, ρ', S, hf, q⟩ => by
  unfold op2E at hf
  obtain ⟨d1, h1, hf⟩ := bind_some hf
  obtain ⟨d2, h2, hf⟩ := bind_some hf
  obtain ⟨z0, h3, hf⟩ := bind_some hf
  cases hf
  obtain ⟨d1, ρ1⟩ := d1
  obtain ⟨d2, ρ2⟩ := d2
  refine ⟨fc, ρ, Hd, d1, ρ1, S, h1, fun v Hd1 H1 S1 e1 r1 => ?_⟩
  have h3 : joinD d1 d2 = some _ := h3
  unfold joinD at h3
  split at h3
  · obtain ⟨ys, rfl, z1, z2, rfl⟩ := joinS_inv h3
    cases r1
    refine ⟨⟨_, rfl⟩, fc, ρ1, Hd1, _, ρ2, S1, h2, fun v2 Hd2 H2 S2 e2 r2 => ?_⟩
    cases r2 with
    | @lst a xs _ k1 k2 hz =>
      have e := Rps.strs k2
      subst e
      exact ⟨_, a, ys, rfl, rfl, .inl (.inl (rd_mono S2.sub k1)), z1, q _ Hd2 H2 S2 (e1.trans e2) (.str _ (Nat.le_trans z2 line_is))⟩
  · obtain ⟨ys, rfl, z1, z2, rfl⟩ := joinS_inv h3
    cases r1
    refine ⟨⟨_, rfl⟩, fc, ρ1, Hd1, _, ρ2, S1, h2, fun v2 Hd2 H2 S2 e2 r2 => ?_⟩
    cases r2 with
    | @tup a xs _ k1 k2 hz =>
      have e := Rps.strs k2
      subst e
      exact ⟨_, a, ys, rfl, rfl, .inr ((tu_mono (S2.sub) k1).sq), z1, q _ Hd2 H2 S2 (e1.trans e2) (.str _ (Nat.le_trans z2 line_is))⟩
  · cases h3
/-! a op b op c -/
def chn (g1 g2 : D → D → Option D) (f g h : Env → Option D) : Env → Option D := fun ρ => (f ρ).bind fun x => (g ρ).bind fun y => (g1 x y).bind fun z => (asB z).bind fun k => if k then (h ρ).bind fun w => g2 y w else some (.bool false)
theorem p_chn {op op' : CmpOp} {r r' : R2} {g1 g2 : D → D → Option D} (ho : OpR X (compareOp op) r) (ho' : OpR X (compareOp op') r') (hk : Op2 X.K r g1 .dat) (hk' : Op2 X.K r' g2 .dat) (ha : PE X a (tP X.K .bor O f)) (hb : PE X b (tP X.K .bor O g)) (hc : PE X c (tP X.K .bor O h))
    (hm : lastMarks [op, op'] [b, c] = false := by with_unfolding_all rfl) : PE X (.Compare a [op, op'] [b, c] pos) (tP X.K .dat O (chn g1 g2 f g h)) := PE.imp (pe_chain ho ho' ha hb hc hm) fun σ H Q ⟨fc, ρ, Hd, z, S, hf, q⟩ => by
  unfold chn at hf
  obtain ⟨x, h1, hf⟩ := bind_some hf
  obtain ⟨y, h2, hf⟩ := bind_some hf
  obtain ⟨z1, h3, hf⟩ := bind_some hf
  obtain ⟨k, h4, hf⟩ := bind_some hf
  refine ⟨fc, ρ, Hd, x, S, h1, fun v1 Hd1 H1 a1 r1 => ⟨fc, ρ, Hd1, y, S.grow a1, h2, fun v2 Hd2 H2 a2 r2 => ?_⟩⟩
  refine hk Hd2 H2 v1 v2 x y z1 _ a2.s (Tp.mono a2.d a2.h r1) r2 h3 fun v3 Hd3 H3 a3 r3 => ⟨k, bl_of (Rp.tp a3.s r3) h4, ?_⟩
  have a13 := (a1.trans a2).trans a3
  cases k with
  | true =>
    obtain ⟨w, h5, hf⟩ := bind_some (show (h ρ).bind (fun w => g2 y w) = some z from hf)
    refine ⟨fc, ρ, Hd3, w, S.grow a13, h5, fun v4 Hd4 H4 a4 r4 => ?_⟩
    exact hk' Hd4 H4 v2 v4 y w z _ a4.s (Tp.mono (a3.trans a4).d (a3.trans a4).h r2) r4 hf fun v5 Hd5 H5 a5 r5 => q v5 Hd5 H5 ((a13.trans a4).trans a5) r5
  | false =>
    cases hf
    exact q _ Hd3 H3 a13 (.bl false)
/-! text * number -/
def repS (z : Str) (n : Int) : Str := ⟨(List.replicate n.toNat z.cps.toList).flatten.toArray⟩
def mul2D : D → D → Option D
  | .int i, .int j => mulD (.int i) (.int j)
  | .str z, .int n => if -1000000 ≤ n ∧ n ≤ 1000000 ∧ z.length * n.toNat ≤ 1000000 ∧ z.length ≤ 1000000 then some (.str (repS z n)) else none
  | _, _ => none
theorem rep_arr (z : Str) (n : Nat) : (⟨(List.replicate n z.cps).foldl (· ++ ·) #[]⟩ : Str) = ⟨(List.replicate n z.cps.toList).flatten.toArray⟩ := by
  congr 1
  have key : ∀ (n : Nat) (acc : Array Nat), (List.replicate n z.cps).foldl (· ++ ·) acc = acc ++ (List.replicate n z.cps.toList).flatten.toArray := by
    intro n
    induction n with
    | zero => intro acc; simp
    | succ n ih =>
      intro acc
      rw [List.replicate_succ, List.foldl_cons, ih, List.replicate_succ, List.flatten_cons]
      apply Array.toList_inj.mp
      simp
  rw [key]
  simp
def rRepS : R2 := fun x y H Q => ∃ z n, x = .str z ∧ y = .int n ∧ -1000000 ≤ n ∧ n ≤ 1000000 ∧ z.length * n.toNat ≤ 1000000 ∧ z.length ≤ 1000000 ∧ Q (.str (repS z n)) H
theorem op_repS : OpR X (binaryOp .Mult) rRepS := by
  intro pins s σ H x y v u Q I rx ry ⟨z, n, ex, ey, n1, n2, n3, n4, q⟩
  subst ex ey
  obtain ⟨t, rfl⟩ := rx
  obtain ⟨t2, rfl⟩ := ry
  have hl0 : (repS z n).length = z.length * n.toNat := by
    show ((List.replicate n.toNat z.cps.toList).flatten.toArray).size = z.cps.size * n.toNat
    rw [List.size_toArray, List.length_flatten, List.map_replicate, List.sum_replicate_nat, Array.length_toList, Nat.mul_comm]
  refine P.mul_str (by rw [decide_eq_false (by omega), decide_eq_false (by omega)] <;> rfl) (fun h1 h2 => ?_) (fun h1 h2 => ?_) ?_
  · have h3 : (z.length : Int) ≤ 1000000 := by omega
    have h4 : (1000000 : Int) ≤ (2 ^ 63 - 1) / n := by
      rw [Int.le_ediv_iff_mul_le (by omega)]
      have : 1000000 * n ≤ 1000000 * 1000000 := by omega
      omega
    omega
  · unfold Builtin.Str.tooLong
    exact decide_eq_false (by have := line_is; omega)
  · split
    · rename_i h1
      have e : repS z n = Str.empty := by
        unfold repS
        rw [show n.toNat = 0 by omega]
        rfl
      rw [e] at q
      exact ⟨by decide, .str _, H, I.tok _, ⟨_, rfl⟩, q⟩
    · split
      · rename_i h1 h2
        have e : repS z n = z := by
          rcases Bool.or_eq_true_iff.mp h2 with h3 | h3
          · have : n = 1 := eq_of_beq h3
            subst this
            unfold repS
            show (⟨(List.replicate 1 z.cps.toList).flatten.toArray⟩ : Str) = z
            simp
          · have h4 : z.length = 0 := eq_of_beq h3
            have h5 : z.cps = #[] := Array.size_eq_zero_iff.mp h4
            unfold repS
            obtain ⟨c⟩ := z
            subst h5
            simp
        rw [e] at q
        exact ⟨.str _, H, I, ⟨_, rfl⟩, q⟩
      · rw [rep_arr]
        exact ⟨by rw [show (⟨(List.replicate n.toNat z.cps.toList).flatten.toArray⟩ : Str) = repS z n from rfl, hl0]; have := line_is; omega, .str _, H, I.tok _, ⟨_, rfl⟩, q⟩
def rMul2 : R2 := fun x y H Q => rI CMul (fun i j => .int (i * j)) x y H Q ∨ rRepS x y H Q
theorem op_mul2 : OpR X (binaryOp .Mult) rMul2 := OpR.or op_mul op_repS
theorem ok_mul2 : Op2 K rMul2 mul2D .dat := fun Hd H x y d e z Q eh tx ty hk q => by
  unfold mul2D at hk
  split at hk
  · exact .inl (ok_mul (K := K) Hd H x y _ _ z Q eh tx ty hk q)
  · split at hk
    · rename_i hc
      cases hk
      cases tx
      cases ty
      refine .inr ⟨_, _, rfl, rfl, hc.1, hc.2.1, hc.2.2.1, hc.2.2.2, q _ Hd H (Gr.refl eh) (.str _ ?_)⟩
      show ((List.replicate _ _).flatten.toArray).size ≤ sizeLine
      rw [List.size_toArray, List.length_flatten, List.map_replicate, List.sum_replicate_nat, Array.length_toList, Nat.mul_comm]
      have := line_is
      have h3 := hc.2.2.1
      unfold Str.length at h3
      omega
    · cases hk
  · cases hk
end
end PL

set_option Elab.async false
set_option linter.all false
set_option maxRecDepth 100000
namespace PL
open PySem PySem.Spec PyProof.Rows L2 PySem.W

section
variable {X : Cx} {K : PySem.W.Frag} {e a b c o : Expr} {es : List Expr} {O : List Nat} {f g h : Env → Option D} {as : Env → Option (List D)} {ase : Env → Option (List D × Env)} {m : Md} {pos p p1 p2 p3 apos cpos : Pos} {k : List D → Option D} {Hd H : Hp} {x : Str} {id T : String}
/-! ### dict(..) -/
def pairsD : List D → Option (List (D × D))
  | [] => some []
  | .tuple [k, v] :: r => if isKey k then (pairsD r).map ((k, v) :: ·) else none
  | _ => none
def mergeD (acc : List (D × D)) (l : List (D × D)) : List (D × D) := l.foldl (fun acc p => dputD acc p.1 p.2) acc
def dictD : List D → Option D
  | [.list ds] => (pairsD ds).map fun l => .dict (mergeD [] l)
  | [.dict kvs] => if (kvs.all fun p => isKey p.1) = true then some (.dict kvs) else none
  | _ => none
theorem merge_gen {kvs more : List (Key × V)} {ds es : List D} (r : Rps K Hd (kvs.map (·.2)) ds) (r2 : Rps K Hd (more.map (·.2)) es) : ∃ ds', Rps K Hd ((mergeK kvs more).map (·.2)) ds' ∧ ((mergeK kvs more).map fun p => keyD p.1).zip ds' = mergeD ((kvs.map fun p => keyD p.1).zip ds) ((more.map fun p => keyD p.1).zip es) := by
  induction more generalizing kvs ds es with
  | nil => exact ⟨ds, r, rfl⟩
  | cons p more ih =>
    cases es with
    | nil => cases r2
    | cons z es =>
      cases r2 with
      | cons q1 q2 =>
        obtain ⟨ds1, r1, e1⟩ := dput_gen eqv_key p.1 q1 r
        obtain ⟨ds', r', e'⟩ := ih r1 q2
        refine ⟨ds', r', ?_⟩
        show ((mergeK (putK kvs p.1 p.2) more).map fun p => keyD p.1).zip ds' = _
        rw [e', e1]
        rfl
theorem pairs_rel : ∀ {xs : List V} {ds : List D} {l : List (D × D)}, Rps K Hd xs ds → pairsD ds = some l → ∃ (ps : List Addr) (kvs : List (Key × V)) (es : List D), xs = ps.map V.ref ∧ Paired (fun p kv => TU Hd p [kV kv.1, kv.2]) ps kvs ∧ Rps K Hd (kvs.map (·.2)) es ∧ (kvs.map fun p => keyD p.1).zip es = l
  | [], [], _, .nil, h => by
    cases h
    exact ⟨[], [], [], rfl, .nil, .nil, rfl⟩
  | x :: xs, d :: ds, l, .cons r t, h => by
    unfold pairsD at h
    split at h
    · rename_i he; cases he
    · rename_i he
      cases he
      split at h
      · rename_i hk
        obtain ⟨l', h', rfl⟩ := Option.map_eq_some_iff.mp h
        obtain ⟨ps, kvs, es, e1, e2, e3, e4⟩ := pairs_rel t h'
        cases r with
        | @tup a ys _ k1 k2 hz =>
          cases k2 with
          | cons q1 k2 =>
            cases k2 with
            | cons q2 k2 =>
              cases k2
              rename_i kv vv
              obtain ⟨kk, rfl, rfl⟩ := of_isKey (q1.tp (Evl.Ex.refl Hd)) hk
              exact ⟨a :: ps, (kk, vv) :: kvs, _ :: es, by rw [e1]; rfl, .cons k1 e2, .cons q2 e3, by rw [← e4]; rfl⟩
      · cases h
    · cases h
theorem cr_dictD (hc : X.calm = true) : CallR X (.type "dict") (rN X.K dictD .fre) := by
  intro pins s σ H xs us Q I r ⟨Hd, ds, z, eh, t, hk, q⟩
  unfold dictD at hk
  split at hk
  · rename_i ds
    obtain ⟨l, hl, rfl⟩ := Option.map_eq_some_iff.mp hk
    obtain ⟨x, rfl, t1⟩ := paired1 t
    cases t1 with
    | @lst a ys _ k1 k2 hz =>
      obtain ⟨ps, kvs, es, e1, e2, e3, e4⟩ := pairs_rel k2 hl
      subst e1
      refine call_dictP hc pins s σ H _ us Q I r ⟨a, ps, kvs, rfl, .inl k1, L2.Paired.mapP e2 fun p kv hp => (tu_mono (eh) hp).sq, fun p hp => ?_⟩
      obtain ⟨ds', r', e'⟩ := merge_gen (kvs := []) (ds := []) .nil e3
      rw [e4] at e'
      exact q _ Hd _ (Gr.own eh hp) ⟨p, rfl, hp, Evl.fresh_back eh hp, by show Ow X.K Hd _ p (.dict (mergeD [] l)); rw [show mergeD [] l = mergeD (List.zip (([] : List (Key × V)).map fun p => keyD p.1) []) l from rfl, ← e']; exact .dK upd_same r'⟩
  · rename_i kvs
    split at hk
    · rename_i hkey
      cases hk
      obtain ⟨x, rfl, t1⟩ := paired1 t
      cases t1 with
      | @scr a ns h1 => simp [isKey] at hkey
      | @kt a xs ds h1 h2 h3 => simp [isKey] at hkey
      | @dK a ws ds h1 h2 =>
        exact call_dictD pins s σ H _ us Q I r ⟨a, ws, rfl, h1, fun p hp => q _ Hd _ (Gr.own eh hp) ⟨p, rfl, hp, Evl.fresh_back eh hp, .dK upd_same h2⟩⟩
      | @dT a ws ds h1 h2 =>
        cases ws with
        | nil =>
          cases r with
          | cons r1 r =>
            cases r
            cases r1
            obtain ⟨z, lo, xs, rel, dd⟩ := dt_rd I.hok h1
            have dd := emptyK rel dd
            refine kt_call_dict lo dd (Nat.zero_le _) fun h' d' hs => ?_
            have hm : (s.heap.objs.size == sysModules) = false := beq_eq_false_iff_ne.mpr (Nat.ne_of_gt I.big)
            have hn := I.hok.fresh (Nat.le_refl s.heap.objs.size)
            refine ⟨.ref s.heap.objs.size, upd H s.heap.objs.size (.dK []), I.laid (t' := s.toks) (fun b u e => (hs.2 b (Nat.ne_of_lt (Heap.lt_size e))).trans (Heap.get?_push_of_some _ e)) (Nat.le_refl _)
              (show ObjOk X.prog X.w _ _ _ (.dK []) from ⟨Nat.zero_le _, hm, [], .nil, d'⟩), rfl, q _ Hd _ (Gr.own eh hn) ⟨_, rfl, hn, Evl.fresh_back eh hn, .dK (ds := []) upd_same .nil⟩⟩
        | cons p ws =>
          cases h2 with
          | cons r1 r2 =>
            rw [List.map_cons, List.zip_cons_cons, List.all_cons, notKey_keys] at hkey
            simp at hkey
    · cases hk
  · cases hk
/-- a new thing, made with an effect, is data -/
theorem t_fnF {r : List V → Hp → VK → Prop} (hk : OpN X.K r k .fre) : ∀ σ H Q, tE X.K O (fnE k ase) σ H Q → tCB r (tEs X.K O ase) σ H fun v H' => Gh (Q v) H' := fun σ H Q ⟨fc, ρ, Hd, z, ρ', S, hf, q⟩ => by
  unfold fnE at hf
  obtain ⟨ds, h1, hf⟩ := bind_some hf
  obtain ⟨w, h2, hf⟩ := bind_some hf
  cases hf
  exact ⟨fc, ρ, Hd, ds.1, ds.2, S, h1, fun vs Hd1 H1 S1 e1 r1 => hk Hd1 H1 vs ds.1 _ _ S1.sub (rps_paired S1.sub r1) h2 fun v Hd' H' g2 ⟨p, ev, np, nd, ow⟩ => by
    subst ev
    exact (settle_gr g2 np nd ow).mono fun H2 ⟨Hd2, g3, r3⟩ => q _ Hd2 H2 (S1.grow g3) (e1.trans g3.d) r3⟩
theorem p_fnBF (hr : CallR X (.builtin id) (rN X.K k .fre)) (hg : Gl X x) (hm : X.mg x = none) (hv : bootBuiltins x = some (.builtin id)) (ha : PA X (e :: es) (tEs X.K O ase)) (hn : x ≠ "__name__" := by decide) (hdb : (x == ("__debug__" : Str)) = false := by decide)
    (he : starEach (e :: es) X.env = (false, eval e X.env) :: starEach es X.env := by rfl) (hpl : (backTo pos (starEach es X.env)).any (·.1) = false := by rfl) : PE X (.Call (.Name x p) (e :: es) [] pos) (tE X.K O (fnE k ase)) :=
  PE.imp (PE.gh (pe_callB hr hg hm hv ha hn hdb he hpl)) (t_fnF ok_rN)
theorem p_fnTF (hr : CallR X (.type T) (rN X.K k .fre)) (hg : Gl X x) (hm : X.mg x = none) (hv : bootBuiltins x = some (.type T)) (ha : PA X (e :: es) (tEs X.K O ase)) (hn : x ≠ "__name__" := by decide) (hdb : (x == ("__debug__" : Str)) = false := by decide)
    (he : starEach (e :: es) X.env = (false, eval e X.env) :: starEach es X.env := by rfl) (hpl : (backTo pos (starEach es X.env)).any (·.1) = false := by rfl) : PE X (.Call (.Name x p) (e :: es) [] pos) (tE X.K O (fnE k ase)) :=
  PE.imp (PE.gh (pe_callTy hr hg hm hv ha hn hdb he hpl)) (t_fnF ok_rN)
/-! ### {'a': x, 'b': y} -/
def dis2 (k1 k2 : D) (f g : Env → Option D) : Env → Option D := fun ρ => (f ρ).bind fun x => (g ρ).bind fun y => some (.dict (mergeD [] [(k1, x), (k2, y)]))
def dis1 (k1 : D) (f : Env → Option D) : Env → Option D := fun ρ => (f ρ).bind fun x => some (.dict (mergeD [] [(k1, x)]))
theorem p_dis2 {s1 s2 : Str} {j1 j2 : Nat} (ha : PE X a (tP X.K .dat O f)) (hb : PE X b (tP X.K .dat O g)) : PE X (.Dict [some (.Constant (.str s1) j1 p1), some (.Constant (.str s2) j2 p2)] [a, b] pos) (tP X.K .fre O (dis2 (.str s1) (.str s2) f g)) :=
  PE.imp (pe_disp (pps_cons pe_str ha (pps_cons pe_str hb pps_nil)) (by rfl) (by rfl) (by intro h; cases h) (by show _ ≤ 15; simp)) fun σ H Q ⟨fc, ρ, Hd, z, S, hf, q⟩ => by
    unfold dis2 at hf
    obtain ⟨x, h1, hf⟩ := bind_some hf
    obtain ⟨y, h2, hf⟩ := bind_some hf
    cases hf
    intro p hp
    have g0 : Gr Hd H Hd (upd H p (.dK [])) := Gr.own S.sub hp
    refine ⟨fc, ρ, Hd, x, S.grow g0, h1, fun v1 Hd1 H1 g1 r1 => ⟨fc, ρ, Hd1, y, (S.grow g0).grow g1, h2, fun v2 Hd2 H2 g2 r2 => ⟨(g1.trans g2).h _ _ upd_same, [(.inr s1, v1), (.inr s2, v2)], rfl, by show 2 ≤ 15; omega, ?_⟩⟩⟩
    have n2 : Hd2 p = none := by
      cases q1 : Hd2 p with
      | none => rfl
      | some u =>
        have := (g1.trans g2).n p u q1 (Evl.fresh_back S.sub hp)
        rw [upd_same] at this
        cases this
    obtain ⟨ds', r', e'⟩ := merge_gen (K := X.K) (Hd := Hd2) (kvs := []) (ds := []) (more := [(.inr s1, v1), (.inr s2, v2)]) (es := [x, y]) .nil (.cons (r1.mono g2.d) (.cons r2 .nil))
    refine q _ Hd2 _ ⟨(g1.trans g2).d, fun b u eb => ?_, fun b u eb => ?_, fun b u eb nb => ?_⟩ ⟨p, rfl, hp, n2, ?_⟩
    · rw [upd_ne (ne_of_none eb hp)]
      exact (g1.trans g2).h b u (by rw [upd_ne (ne_of_none eb hp)]; exact eb)
    · rw [upd_ne (ne_of_none eb n2)]
      exact (g1.trans g2).s b u eb
    · have := (g1.trans g2).n b u eb nb
      rw [upd_ne (ne_of_none eb n2)] at this
      exact this
    · show Ow X.K Hd2 _ p (.dict (mergeD [] [(.str s1, x), (.str s2, y)]))
      rw [show mergeD [] [(PyData.str s1, x), (PyData.str s2, y)] = mergeD (List.zip (([] : List (Key × V)).map fun p => keyD p.1) []) ((([(Sum.inr s1, v1), (Sum.inr s2, v2)] : List (Key × V)).map fun p => keyD p.1).zip [x, y]) from rfl, ← e']
      exact .dK upd_same r'
theorem p_dis1 {s1 : Str} {j1 : Nat} (ha : PE X a (tP X.K .dat O f)) : PE X (.Dict [some (.Constant (.str s1) j1 p1)] [a] pos) (tP X.K .fre O (dis1 (.str s1) f)) :=
  PE.imp (pe_disp (pps_cons pe_str ha pps_nil) (by rfl) (by rfl) (by intro h; cases h) (by show _ ≤ 15; simp)) fun σ H Q ⟨fc, ρ, Hd, z, S, hf, q⟩ => by
    unfold dis1 at hf
    obtain ⟨x, h1, hf⟩ := bind_some hf
    cases hf
    intro p hp
    have g0 : Gr Hd H Hd (upd H p (.dK [])) := Gr.own S.sub hp
    refine ⟨fc, ρ, Hd, x, S.grow g0, h1, fun v1 Hd1 H1 g1 r1 => ⟨g1.h _ _ upd_same, [(.inr s1, v1)], rfl, by show 1 ≤ 15; omega, ?_⟩⟩
    have n2 : Hd1 p = none := by
      cases q1 : Hd1 p with
      | none => rfl
      | some u =>
        have := g1.n p u q1 (Evl.fresh_back S.sub hp)
        rw [upd_same] at this
        cases this
    obtain ⟨ds', r', e'⟩ := merge_gen (K := X.K) (Hd := Hd1) (kvs := []) (ds := []) (more := [(.inr s1, v1)]) (es := [x]) .nil (.cons r1 .nil)
    refine q _ Hd1 _ ⟨g1.d, fun b u eb => ?_, fun b u eb => ?_, fun b u eb nb => ?_⟩ ⟨p, rfl, hp, n2, ?_⟩
    · rw [upd_ne (ne_of_none eb hp)]
      exact g1.h b u (by rw [upd_ne (ne_of_none eb hp)]; exact eb)
    · rw [upd_ne (ne_of_none eb n2)]
      exact g1.s b u eb
    · have := g1.n b u eb nb
      rw [upd_ne (ne_of_none eb n2)] at this
      exact this
    · show Ow X.K Hd1 _ p (.dict (mergeD [] [(.str s1, x)]))
      rw [show mergeD [] [(PyData.str s1, x)] = mergeD (List.zip (([] : List (Key × V)).map fun p => keyD p.1) []) ((([(Sum.inr s1, v1)] : List (Key × V)).map fun p => keyD p.1).zip [x]) from rfl, ← e']
      exact .dK upd_same r'
end
end PL

set_option Elab.async false
set_option linter.all false
set_option maxRecDepth 100000
namespace PL
open PySem PySem.Spec PyProof.Rows L2 PySem.W

section
variable {X : Cx} {K : PySem.W.Frag} {e a b c o : Expr} {O : List Nat} {f g h : Env → Option D} {pos : Pos} {Hd H : Hp} {x : Str}
/-! ### + of anything -/
def addA (d e : D) : Option D := match d with
  | .list _ => catD d e
  | _ => addD d e
def rAddA (K : PySem.W.Frag) : R2 := fun x y H Q => rAdd2 K x y H Q ∨ rCatS x y H Q
theorem op_addA : OpR X (binaryOp .Add) (rAddA X.K) := OpR.or op_add2 op_catS
theorem catD_lst {d e z : D} (h : catD d e = some z) : isLst z = true := by
  unfold catD at h
  split at h
  · split at h
    · cases h; rfl
    · cases h
  · cases h
theorem ok_addA : Op2 K (rAddA K) addA .dat := fun Hd H x y d e z Q eh tx ty hk q => by
  unfold addA at hk
  split at hk
  · exact .inr (Op2.dat ok_cat (fun _ _ _ h => catD_lst h) Hd H x y _ e z Q eh tx ty hk q)
  · exact .inl (ok_add Hd H x y d e z Q eh tx ty hk q)
theorem ok_catD : Op2 K rCatS catD .dat := Op2.dat ok_cat fun _ _ _ h => catD_lst h
/-! ### chained comparisons as tests -/
theorem p_chnT {op op' : CmpOp} {r r' : R2} {g1 g2 : D → D → Option D} (ho : OpR X (compareOp op) r) (ho' : OpR X (compareOp op') r') (hk : Op2 X.K r g1 .dat) (hk' : Op2 X.K r' g2 .dat) (ha : PE X a (tP X.K .bor O f)) (hb : PE X b (tP X.K .bor O g)) (hc : PE X c (tP X.K .bor O h))
    (hm : lastMarks [op, op'] [b, c] = false := by with_unfolding_all rfl) : PT X (.Compare a [op, op'] [b, c] pos) (tPT X.K O (tru (chn g1 g2 f g h))) := PT.imp (pt_chain ho ho' ha hb hc hm) fun σ H Q ⟨fc, ρ, Hd, bb, S, hf, q⟩ => by
  unfold tru at hf
  obtain ⟨z, h0, hf⟩ := bind_some hf
  unfold chn at h0
  obtain ⟨x, h1, h0⟩ := bind_some h0
  obtain ⟨y, h2, h0⟩ := bind_some h0
  obtain ⟨z1, h3, h0⟩ := bind_some h0
  obtain ⟨k, h4, h0⟩ := bind_some h0
  refine ⟨fc, ρ, Hd, x, S, h1, fun v1 Hd1 H1 a1 r1 => ⟨fc, ρ, Hd1, y, S.grow a1, h2, fun v2 Hd2 H2 a2 r2 => ?_⟩⟩
  refine hk Hd2 H2 v1 v2 x y z1 _ a2.s (Tp.mono a2.d a2.h r1) r2 h3 fun v3 Hd3 H3 a3 r3 => ⟨k, bl_of (Rp.tp a3.s r3) h4, ?_⟩
  have a13 := (a1.trans a2).trans a3
  cases k with
  | true =>
    obtain ⟨w, h5, h0⟩ := bind_some (show (h ρ).bind (fun w => g2 y w) = some z from h0)
    refine ⟨fc, ρ, Hd3, w, S.grow a13, h5, fun v4 Hd4 H4 a4 r4 => ?_⟩
    exact hk' Hd4 H4 v2 v4 y w z _ a4.s (Tp.mono (a3.trans a4).d (a3.trans a4).h r2) r4 h0 fun v5 Hd5 H5 a5 r5 => ⟨bb, bl_of (Rp.tp a5.s r5) hf, q Hd5 H5 ((a13.trans a4).trans a5)⟩
  | false =>
    cases h0
    cases hf
    exact ⟨false, rfl, q Hd3 H3 a13⟩
/-! ### a call of a def, its arguments told as a pure list -/
def slcE (f : Env → Option (D × Env)) (lo hi : Env → Option (Option Int)) : Env → Option (D × Env) := fun ρ => (f ρ).bind fun x => (lo x.2).bind fun l => (hi x.2).bind fun u => (slcD x.1 l u).bind fun z => some (z, x.2)
end
/-! ### the names that are builtins -/
structure Blt (mg : Str → Option Value) : Prop where
  len : mg "len" = none
  range : mg "range" = none
  sorted : mg "sorted" = none
  tuple : mg "tuple" = none
  list : mg "list" = none
  set : mg "set" = none
  dict : mg "dict" = none
  int : mg "int" = none
  str : mg "str" = none
  abs : mg "abs" = none
  sum : mg "sum" = none
  min : mg "min" = none
  max : mg "max" = none
  all : mg "all" = none
  any : mg "any" = none
  isinstance : mg "isinstance" = none
  zip : mg "zip" = none
  enumerate : mg "enumerate" = none
  bool : mg "bool" = none
/-- the def x is laid -/
def Ff (K : PySem.W.Frag) (mg : Str → Option Value) (x : Str) (st : Stmt) (ps : List Str) : Prop := ∃ (fa : Addr) (fd : FuncData), Fun K x x st fa fd ∧ mg x = some (.ref fa) ∧ Binds K fd ps []
section
variable {P : Program} {w : World} {K : PySem.W.Frag} {mg : Str → Option Value} {base : Heap} {x : Str} {st : Stmt} {N ps : List Str} {lv n : Nat} {g : Env → Option (Fl × Env)} {O' : List Nat}
theorem d_pure (F : Ff K mg x st ps) (S : FnScope N ps (defScope st)) (hn : ps.length = n)
    (body : ∀ (fa : Addr) (cdv : Value) (A : Around) (outer : List PySem.Env) (s : Shared) (H : Hp) (E : XK), Room lv (A.deeper (envOfC x (defScope st) s.heap.objs.size fa cdv)) → PSs (cxOf CX0 P w K mg base N x (defScope st) fa cdv A outer s H E).nox (defBody st) (tS K [] [] [] O' g)) :
    Df P w K mg base (lv + 1) x (SpP K n (bodyD N.length g)) := by
  obtain ⟨fa, fd, F, hm, hb⟩ := F
  exact fn_pure F S hm hb hn (body fa)
theorem d_top {fa : Addr} {fd : FuncData} (F : Fun K x x st fa fd) (S : FnScope N ps (defScope st)) (hn : ps.length = n)
    (body : ∀ (fa : Addr) (cdv : Value) (A : Around) (outer : List PySem.Env) (s : Shared) (H : Hp) (E : XK), Room lv (A.deeper (envOfC x (defScope st) s.heap.objs.size fa cdv)) → PSs (cxOf CX0 P w K mg base N x (defScope st) fa cdv A outer s H E).nox (defBody st) (tS K [] [] [] O' g)) :
    FnOk P w K mg base CX0 (lv + 1) fa fd ps (SpP K n (bodyD N.length g)) := fn_pureOk F S hn (body fa)
theorem d_w (F : Ff K mg x st ps) (S : FnScope N ps (defScope st)) (hn : ps.length = n)
    (body : ∀ (fa : Addr) (cdv : Value) (A : Around) (outer : List PySem.Env) (s : Shared) (H : Hp) (E : XK), Room lv (A.deeper (envOfC x (defScope st) s.heap.objs.size fa cdv)) → PSs (cxOf CX0 P w K mg base N x (defScope st) fa cdv A outer s H E).nox (defBody st) (tS K [0] [0] [0] (0 :: O') g)) :
    Df P w K mg base (lv + 1) x (SpW K n (bodyW N.length g)) := by
  obtain ⟨fa, fd, F, hm, hb⟩ := F
  exact fn_w F S hm hb hn (body fa)
theorem pss_bot {X : Cx} {sts : List Stmt} {I L O O' : List Nat} : PSs X sts (tS X.K I L O O' fun _ => none) := PSs.imp pss_never fun D σ H ⟨fc, ρ, Hd, fl, ρ', S, io, hg, q⟩ => by cases hg
theorem d_bot (F : Ff K mg x st ps) (S : FnScope N ps (defScope st)) (hn : ps.length = n) : Df P w K mg base (lv + 1) x (SpP K n fun _ => none) := by
  have h : Df P w K mg base (lv + 1) x (SpP K n (bodyD N.length fun _ => none)) := d_pure (O' := []) F S hn fun fa cdv A outer s H E hr => pss_bot
  have e : (bodyD N.length fun _ => none) = (fun _ => none : List D → Option D) := rfl
  rw [e] at h
  exact h
theorem d_botW (F : Ff K mg x st ps) (S : FnScope N ps (defScope st)) (hn : ps.length = n) : Df P w K mg base (lv + 1) x (SpW K n fun _ _ => none) := by
  have h : Df P w K mg base (lv + 1) x (SpW K n (bodyW N.length fun _ => none)) := d_w (O' := []) F S hn fun fa cdv A outer s H E hr => pss_bot
  have e : (bodyW N.length fun _ => none) = (fun _ _ => none : D → List D → Option (D × D)) := rfl
  rw [e] at h
  exact h
end
end PL

set_option Elab.async false
set_option linter.all false
set_option maxRecDepth 100000
namespace PL
open PySem PySem.Spec PyProof.Rows L2 PySem.W

section
variable {X : Cx} {K : PySem.W.Frag} {e tg : Expr} {O O' I L : List Nat} {f : Env → Option D} {fe : Env → Option (D × Env)} {pos : Pos}
/-! ### ends of a suite: what may be changed behind them is free -/
theorem s_ret' (he : PE X e (tP X.K .dat I f)) : PS X (.Return (some e) pos) (tS X.K I L I O' (retS f)) := PS.imp (ps_ret he) fun Dn σ H ⟨fc, ρ, Hd, fl, ρ', S, io, hg, q⟩ => by
  unfold retS at hg
  obtain ⟨d, h1, hg⟩ := bind_some hg
  cases hg
  exact ⟨fc, ρ, Hd, d, S, h1, fun v Hd' H' g1 r => q Hd' σ H' v (S.grow g1) g1.d r⟩
theorem s_retE' (he : PE X e (tE X.K I fe)) : PS X (.Return (some e) pos) (tS X.K I L I O' (retE fe)) := PS.imp (ps_ret he) fun Dn σ H ⟨fc, ρ, Hd, fl, ρ', S, io, hg, q⟩ => by
  unfold retE at hg
  obtain ⟨d, h1, hg⟩ := bind_some hg
  cases hg
  exact ⟨fc, ρ, Hd, d.1, d.2, S, h1, fun v Hd' H' S1 e1 r => q Hd' σ H' v S1 e1 r⟩
theorem s_retN' : PS X (.Return none pos) (tS X.K I L I O' retN) := PS.imp ps_retN fun Dn σ H ⟨fc, ρ, Hd, fl, ρ', S, io, hg, q⟩ => by
  cases hg
  exact q Hd σ H .non S (Evl.Ex.refl _) .non
theorem s_break' : PS X (.Break pos) (tS X.K I O O O' brkS) := PS.imp ps_break fun Dn σ H ⟨fc, ρ, Hd, fl, ρ', S, io, hg, q⟩ => by
  cases hg
  exact q Hd σ H S (Evl.Ex.refl _)
theorem s_continue' : PS X (.Continue pos) (tS X.K I O O O' contS) := PS.imp ps_continue fun Dn σ H ⟨fc, ρ, Hd, fl, ρ', S, io, hg, q⟩ => by
  cases hg
  exact q Hd σ H S (Evl.Ex.refl _)
/-! ### anything that is data may be walked -/
def ktL : List (D × D) → Option (List D)
  | [(.none, .tuple ds)] => some ds
  | _ => none
def itemsA : D → Option (List D)
  | .dict kvs => (keysL (.dict kvs)).or (ktL kvs)
  | d => itemsD d
theorem it_kt {per : Bool} {Hd H : Hp} {l : Addr} {xs : List V} {ds : List D} (h1 : Hd l = some (.tup xs)) (h2 : Rps K Hd xs ds) : ItD K per (Itt K l) Hd H ds := fun i Hd1 H1 a s ex => by
  have q : SqT K H1 l xs := .of (s _ _ (a _ _ h1))
  refine ⟨fun d hd => ?_, fun e => ⟨xs, q, by rw [h2.length]; omega⟩⟩
  obtain ⟨v, hv, rv⟩ := h2.get hd
  refine ⟨⟨xs, v, q, hv⟩, fun x H2 ⟨e, y⟩ => ⟨Hd1, by rw [e]; exact Gr.refl s, ?_⟩⟩
  have z := y xs q
  rw [hv] at z
  cases z
  exact rv.mono a
def anyI (f : Env → Option D) : Env → Option (List D) := fun ρ => (f ρ).bind itemsA
theorem i_any (h : PE X e (tP X.K .dat O f)) : PI X tg e (tI X.K true O (anyI f)) := PI.mk' fun pins s σ H R I ⟨fc, ρ, Hd, ds, S, hf, q⟩ => by
  unfold anyI at hf
  obtain ⟨d, h1, hf⟩ := bind_some hf
  unfold itemsA at hf
  split at hf
  · rename_i kvs
    cases hk : keysL (.dict kvs) with
    | some l =>
      rw [hk] at hf
      cases hf
      exact (i_keys h).run pins s σ H R I ⟨fc, ρ, Hd, _, S, by unfold keysI; rw [h1]; exact hk, q⟩
    | none =>
      rw [hk] at hf
      have hf : ktL kvs = some ds := hf
      unfold ktL at hf
      split at hf
      · cases hf
        exact (pi_tup h).run pins s σ H R I ⟨fc, ρ, Hd, _, S, h1, fun v Hd' H' g r => by
          obtain ⟨a, xs, rfl, k1, k2, hz⟩ := kt_of (r.tp g.s)
          exact ⟨a, rfl, ⟨xs, .of (g.s _ _ k1)⟩, q _ Hd' H' g (it_kt k1 k2) (by rw [← k2.length]; exact hz)⟩⟩
      · cases hf
  · exact (i_seqP h).run pins s σ H R I ⟨fc, ρ, Hd, ds, S, by unfold seqI; rw [h1]; exact hf, q⟩
end
/-! ### the builtins' names -/
theorem bt_len : bootBuiltins "len" = some (.builtin "len") := by decide +kernel
theorem bt_sorted : bootBuiltins "sorted" = some (.builtin "sorted") := by decide +kernel
theorem bt_abs : bootBuiltins "abs" = some (.builtin "abs") := by decide +kernel
theorem bt_sum : bootBuiltins "sum" = some (.builtin "sum") := by decide +kernel
theorem bt_min : bootBuiltins "min" = some (.builtin "min") := by decide +kernel
theorem bt_max : bootBuiltins "max" = some (.builtin "max") := by decide +kernel
theorem bt_all : bootBuiltins "all" = some (.builtin "all") := by decide +kernel
theorem bt_any : bootBuiltins "any" = some (.builtin "any") := by decide +kernel
theorem bt_isinstance : bootBuiltins "isinstance" = some (.builtin "isinstance") := by decide +kernel
theorem bt_tuple : bootBuiltins "tuple" = some (.type "tuple") := by decide +kernel
theorem bt_list : bootBuiltins "list" = some (.type "list") := by decide +kernel
theorem bt_set : bootBuiltins "set" = some (.type "set") := by decide +kernel
theorem bt_dict : bootBuiltins "dict" = some (.type "dict") := by decide +kernel
theorem bt_int : bootBuiltins "int" = some (.type "int") := by decide +kernel
theorem bt_str : bootBuiltins "str" = some (.type "str") := by decide +kernel
theorem bt_bool : bootBuiltins "bool" = some (.type "bool") := by decide +kernel
end PL

set_option Elab.async false
set_option linter.all false
set_option maxRecDepth 100000
namespace PL
open PySem PySem.Spec PyProof.Rows L2 PySem.W

/-! ### sets of ints and texts -/
def keyV (e : Int × Value) : Key := match e.2 with
  | .int k _ => .inl k
  | .str x _ => .inr x
  | _ => .inl 0
def GoodK (P : Program) (w : World) (e : Int × Value) : Prop := ∃ k : Key, (mixKind P w).is k e.2 = true ∧ e.1 = (mixKind P w).hash k
def SetK (P : Program) (w : World) (h : Heap) (a : Addr) (S : Key → Bool) (n : Nat) : Prop :=
  ∃ o es ep t, h.get? a = some o ∧ o.ExactSet ∧ o.data = .set es ep t ∧ (∀ e ∈ es.toList, GoodK P w e) ∧ (es.toList.map keyV).Nodup ∧ (∀ k, S k = true ↔ k ∈ es.toList.map keyV) ∧
    es.size < scanBound ∧ t.fits es.size = true ∧ es.size = n ∧ Ris t.place.toList ∧ (w.params.followText "set-order" = true ∨ t.led = true)
section
variable {P : Program} {w : World} {h h' : Heap} {a : Addr} {S : Key → Bool} {n : Nat}
theorem key_scan {k : Key} {v : Value} (h : (mixKind P w).is k v = true) : v.scannable = true := by
  rcases keyIs_shape (show keyIs k v = true from h) with ⟨i, t, rfl, rfl⟩ | ⟨x, t, rfl, rfl⟩ <;> rfl
theorem keyV_of {k : Key} {v : Value} {i : Int} (h : (mixKind P w).is k v = true) : keyV (i, v) = k := by
  rcases keyIs_shape (show keyIs k v = true from h) with ⟨i, t, rfl, rfl⟩ | ⟨x, t, rfl, rfl⟩ <;> rfl
theorem SetK.at (R : SetK P w h a S n) (k : ∀ o, h.get? a = some o → h'.get? a = some o) : SetK P w h' a S n := by
  obtain ⟨o, es, ep, t, ho, r⟩ := R
  exact ⟨o, es, ep, t, k o ho, r⟩
theorem goodK_elems {l : List (Int × Value)} (g : ∀ e ∈ l, GoodK P w e) : ElemsOf (mixKind P w) l := fun e he => by
  obtain ⟨k, h1, h2⟩ := g e he
  exact ⟨⟨k, h1, h2⟩, key_scan h1⟩
theorem goodK_is {e : Int × Value} (g : GoodK P w e) (k : Key) : (mixKind P w).is k e.2 = true ↔ keyV e = k := by
  obtain ⟨k0, h1, _⟩ := g
  obtain ⟨i, v⟩ := e
  have h1' : (mixKind P w).is k0 v = true := h1
  rw [keyV_of h1']
  exact ⟨fun h => (mixKind P w).inj v k0 k h1' h, fun h => h ▸ h1'⟩
theorem goodK_mem {l : List (Int × Value)} (g : ∀ e ∈ l, GoodK P w e) (k : Key) : k ∈ l.map keyV ↔ ∃ e ∈ l, (mixKind P w).is k e.2 = true := by
  rw [List.mem_map]
  exact ⟨fun ⟨e, he, q⟩ => ⟨e, he, (goodK_is (g e he) k).2 q⟩, fun ⟨e, he, q⟩ => ⟨e, he, (goodK_is (g e he) k).1 q⟩⟩
end
section
variable {P : Program} {w : World} {A : Around} {E : Value → Shared → Prop} {s : Shared} {a : Addr} {S : Key → Bool} {n : Nat}
theorem setK_tail {g : Bool → Sem Unit} (hg : ∀ (b : Bool) (s₁ : Shared) (Q' : Unit → Shared → Prop), Q' () s₁ → wpAny (model P w) A (g b) Q' E s₁)
    {o : Obj} {es : Array (Int × Value)} {ep : Nat} {t : SetTable} (ho : s.heap.get? a = some o) (hex : o.ExactSet) (hd : o.data = .set es ep t)
    {es1 : Array (Int × Value)} {t2 : SetTable} {S' : Key → Bool} (g1 : ∀ e ∈ es1.toList, GoodK P w e) (nd1 : (es1.toList.map keyV).Nodup) (m1 : ∀ k, S' k = true ↔ k ∈ es1.toList.map keyV)
    (hb1 : es1.size < scanBound) (hf2 : t2.fits es1.size = true) (hr : Ris t2.place.toList) (hl : w.params.followText "set-order" = true ∨ t2.led = true) {wasDummy : Bool} {R : Option Bool → Shared → Prop}
    (hR : ∀ h', Heap.SameBut a s.heap h' → SetK P w h' a S' es1.size → R (some true) { s with heap := h' }) :
    wpAny (model P w) A (do
        storeSet a es1 t2
        if (!wasDummy && t2.tooFull) = true then do
            g (relayAll t2 es1 (SetTable.grown es1.size)).2.2
            storeSet a (relayAll t2 es1 (SetTable.grown es1.size)).1 (relayAll t2 es1 (SetTable.grown es1.size)).2.1
            pure (some true)
          else pure (some true)) R E s := by
  refine wpAny_bind (wpAny_storeSet_of ho hd ?_ (fits_of_scanBound hb1))
  have ho1 := store_at (es' := es1) (t' := t2) ho hd
  have sb1 := Heap.SameBut.update s.heap a (Obj.putSet es1 t2)
  split
  · have pm := relayAll_perm t2 es1 (SetTable.grown es1.size)
    have hf3 := relayAll_fits t2 es1 (SetTable.grown es1.size)
    have hr3 := relayAll_ris t2 es1 (SetTable.grown es1.size)
    have hl3 := relayAll_led t2 es1 (SetTable.grown es1.size)
    generalize relayAll t2 es1 (SetTable.grown es1.size) = Z at pm hf3 hr3 hl3 ⊢
    obtain ⟨es2, t3, gave⟩ := Z
    dsimp only at pm hf3 hr3 hl3 ⊢
    have hsz : es2.size = es1.size := by rw [← Array.length_toList, pm.length_eq, Array.length_toList]
    have hb2 : es2.size < scanBound := by rw [hsz]; exact hb1
    refine wpAny_bind (hg _ _ _ ?_)
    refine wpAny_bind (wpAny_storeSet_of ho1 rfl ?_ (fits_of_scanBound hb2))
    have ho2 := store_at (es' := es2) (t' := t3) ho1 rfl
    refine wpAny_pure (hR _ (sb1.trans (Heap.SameBut.update _ a _)) ?_)
    exact ⟨_, es2, _, t3, ho2, hex, rfl, fun e he => g1 e (pm.mem_iff.mp he), (pm.map keyV).nodup_iff.mpr nd1, fun k => (m1 k).trans (pm.map keyV).mem_iff.symm, hb2, hf3, hsz, hr3,
      hl.imp id fun z => by rw [hl3]; exact z⟩
  · exact wpAny_pure (hR _ sb1 ⟨_, es1, _, t2, ho1, hex, rfl, g1, nd1, m1, hb1, hf2, rfl, hr, hl⟩)

theorem setK_add {k : Key} {v : Value} {Q : Bool → Shared → Prop} (hkey : (mixKind P w).is k v = true) (R : SetK P w s.heap a S n) (room : n + 1 < scanBound)
    (hQ : ∀ h', Heap.SameBut a s.heap h' → SetK P w h' a (fun j => S j || decide (j = k)) (if S k = true then n else n + 1) → Q (!S k) { s with heap := h' }) :
    wpAny (model P w) A (setAddHashed a v ((mixKind P w).hash k)) Q E s := by
  obtain ⟨o, es, ep, t, ho, hex, hd, g, nd, hm, hb, hf, hn, hr, hl⟩ := R
  have hsc : v.scannable = true := key_scan hkey
  have hel : ElemsOf (mixKind P w) es.toList := goodK_elems g
  unfold setAddHashed setAddHashedIn
  refine wpAny_holding (wpAny_bind (wpAny_setState_of ho hd hf ?_))
  dsimp only
  rw [byScan_of hsc hb hel]
  simp only [↓reduceIte]
  unfold setAddByScan
  refine wpAny_bind ?_
  refine wpAny_bind (wpAny_rule ?_)
  refine wpAny_bind (wpAny_setScan_of hkey ho hd hf hel ?_)
  cases hfi : List.findIdx? (fun e => (mixKind P w).is k e.2) es.toList with
  | some j =>
    dsimp only
    obtain ⟨hj, pj, _⟩ := List.findIdx?_eq_some_iff_getElem.mp hfi
    have hSk : S k = true := (hm k).2 ((goodK_mem g k).2 ⟨es.toList[j], List.getElem_mem hj, pj⟩)
    refine wpAny_pure (wpAny_pure ?_)
    have q := hQ s.heap (Heap.SameBut.refl a s.heap) ⟨o, es, ep, t, ho, hex, hd, g, nd, fun i => by
      rw [Bool.or_eq_true, decide_eq_true_eq, ← hm i]
      exact ⟨fun z => z.elim id (fun e => e ▸ hSk), .inl⟩, hb, hf, by rw [if_pos hSk]; exact hn, hr, hl⟩
    rw [hSk] at q
    exact q
  | none =>
    dsimp only
    have hnk : k ∉ es.toList.map keyV := fun z => by
      obtain ⟨e, he, q⟩ := (goodK_mem g k).1 z
      have c := List.findIdx?_eq_none_iff.mp hfi e he
      rw [q] at c
      cases c
    have hSk : S k = false := by
      cases q : S k with
      | false => rfl
      | true => exact absurd ((hm k).1 q) hnk
    have hgw : ∀ (b : Bool) {s₁ : Shared} {Q' : Unit → Shared → Prop}, Q' () s₁ → wpAny (model P w) A (match b with | true => rule "set.scan.the-table-gave-way" | false => pure ()) Q' E s₁ :=
      fun b s₁ Q' q => by cases b <;> first | exact wpAny_pure q | exact wpAny_rule q
    have pm := layNew_perm t es ((mixKind P w).hash k) v
    have hf1 := layNew_fits t es ((mixKind P w).hash k) v
    have hr1 := layNew_ris t es ((mixKind P w).hash k) v hr
    have hl1 := layNew_led t es ((mixKind P w).hash k) v
    generalize layNew t es ((mixKind P w).hash k) v = Z at pm hf1 hr1 hl1 ⊢
    obtain ⟨es1, t1, wasDummy, gave⟩ := Z
    dsimp only at pm hf1 hr1 hl1 ⊢
    rw [Array.toList_push] at pm
    have pc : es1.toList.Perm (((mixKind P w).hash k, v) :: es.toList) := pm.trans (List.perm_append_singleton _ _)
    have pk : (es1.toList.map keyV).Perm (k :: es.toList.map keyV) := by
      have z := pc.map keyV
      rw [List.map_cons, show keyV ((mixKind P w).hash k, v) = k from keyV_of hkey] at z
      exact z
    have g1 : ∀ e ∈ es1.toList, GoodK P w e := fun e he => by
      rcases List.mem_cons.mp (pc.mem_iff.mp he) with z | z
      · rw [z]; exact ⟨k, hkey, rfl⟩
      · exact g e z
    have nd1 : (es1.toList.map keyV).Nodup := pk.nodup_iff.mpr (List.nodup_cons.mpr ⟨hnk, nd⟩)
    have m1 : ∀ i, (S i || decide (i = k)) = true ↔ i ∈ es1.toList.map keyV := fun i => by
      rw [Bool.or_eq_true, decide_eq_true_eq, hm i, pk.mem_iff, List.mem_cons]
      exact Or.comm
    have hsz : es1.size = n + 1 := by rw [← Array.length_toList, pc.length_eq, List.length_cons, Array.length_toList, hn]
    have hb1 : es1.size < scanBound := by rw [hsz]; exact room
    have hled : w.params.followText "set-order" = true ∨ t1.led = true := hl.imp id fun z => by rw [hl1]; exact z
    have fin : ∀ h', Heap.SameBut a s.heap h' → SetK P w h' a (fun j => S j || decide (j = k)) es1.size → Q true { s with heap := h' } := fun h' sb r => by
      have q := hQ h' sb
      rw [hSk] at q
      rw [hsz] at r
      exact q r
    refine wpAny_bind (hgw _ ?_)
    split
    · refine wpAny_bind ?_
      rw [hashByValue_scannable 8 hsc]
      refine wpAny_pure ?_
      refine setK_tail ?_ ho hex hd g1 nd1 m1 hb1 ?_ ?_ ?_ ?_
      · intro b s₁ Q' q; cases b <;> first | exact wpAny_pure q | exact wpAny_rule q
      · first | (split <;> first | exact hf1 | exact SetTable.fits_plain_off hf1) | exact hf1
      · first | (split <;> exact hr1) | exact hr1
      · first | (split <;> exact hled) | exact hled
      · intro h' sb r; dsimp only; exact wpAny_pure (fin h' sb r)
    · refine wpAny_bind (wpAny_pure ?_)
      simp only [↓reduceIte]
      refine setK_tail ?_ ho hex hd g1 nd1 m1 hb1 hf1 hr1 hled ?_
      · intro b s₁ Q' q; cases b <;> first | exact wpAny_pure q | exact wpAny_rule q
      · intro h' sb r; dsimp only; exact wpAny_pure (fin h' sb r)

end
end PL

set_option Elab.async false
set_option linter.all false
set_option maxRecDepth 100000
namespace PL
open PySem PySem.Spec PyProof.Rows L2 PySem.W

section
variable {P : Program} {w : World} {A : Around} {E : Value → Shared → Prop} {s : Shared}
def memK (k : Key) (l : List Key) : Bool := l.any fun j => decide (j = k)
/-- the first of each kind, in order -/
def uniqK : List Key → List Key → List Key
  | acc, [] => acc
  | acc, k :: ks => if memK k acc = true then uniqK acc ks else uniqK (acc ++ [k]) ks
def SetL (P : Program) (w : World) (h : Heap) (a : Addr) (l : List Key) : Prop := SetK P w h a (fun k => memK k l) l.length
theorem SetL.keep {h h' : Heap} {a : Addr} {l : List Key} (R : SetL P w h a l) (k : ∀ o, h.get? a = some o → h'.get? a = some o) : SetL P w h' a l := SetK.at R k
theorem setL_fresh {h : Heap} {a : Addr} (ho : h.get? a = some { cls := .type "set", dict := none, data := .set #[] 0 (.fresh 0 0 (!w.params.followText "set-order")) }) : SetL P w h a [] :=
  ⟨_, #[], 0, _, ho, ⟨rfl, rfl, rfl⟩, rfl, (fun e he => by simp at he), (by simp), (fun k => by simp [memK]), (by decide), (by rfl), rfl, List.Pairwise.nil, by
    show _ ∨ (!w.params.followText "set-order") = true
    cases w.params.followText "set-order"
    · exact .inr rfl
    · exact .inl rfl⟩
theorem setL_add {a : Addr} {l : List Key} {k : Key} {v : Value} {Q : Bool → Shared → Prop} (hk : (mixKind P w).is k v = true) (R : SetL P w s.heap a l) (room : l.length + 1 < scanBound)
    (hQ : ∀ b h', Heap.SameBut a s.heap h' → SetL P w h' a (if memK k l = true then l else l ++ [k]) → Q b { s with heap := h' }) : wpAny (model P w) A (setAddHashed a v ((mixKind P w).hash k)) Q E s :=
  setK_add hk R room fun h' sb r => hQ _ h' sb (by
    by_cases h : memK k l = true
    · have e : (fun j => memK j l || decide (j = k)) = fun j => memK j l := by
        funext j
        by_cases hj : j = k
        · subst hj; simp [h]
        · simp [hj]
      rw [e, if_pos h] at r
      rw [if_pos h]
      exact r
    · have e : (fun j => memK j l || decide (j = k)) = fun j => memK j (l ++ [k]) := by
        funext j
        unfold memK
        rw [List.any_append]
        by_cases hj : j = k
        · subst hj; simp
        · have hj' : ¬ k = j := fun z => hj z.symm
          simp [hj, hj']
      rw [e, if_neg h] at r
      rw [if_neg h]
      show SetK P w h' a _ (l ++ [k]).length
      rw [List.length_append, List.length_singleton]
      exact r)
theorem uniqK_len : ∀ (ks acc : List Key), (uniqK acc ks).length ≤ acc.length + ks.length
  | [], acc => Nat.le_refl _
  | k :: ks, acc => by
    unfold uniqK
    split
    · have := uniqK_len ks acc
      rw [List.length_cons]
      omega
    · have := uniqK_len ks (acc ++ [k])
      rw [List.length_append, List.length_singleton] at this
      rw [List.length_cons]
      omega
/-- set.update's loop -/
theorem set_loop {I : Addr} {fp wr : List Addr} {G : Array GenState → Array GenState → Prop} {n : Nat} {Pv : Nat → Value → Prop} {St : Nat → Shared → Prop} {R : Result → Shared → Prop}
    (W : WalksS P w A.in1 I fp wr G n Pv St) (S : Addr) (hSf : S ∉ fp) (ks : List Key) (hn : n = ks.length) (hval : ∀ i v, Pv i v → ∃ k, ks[i]? = some k ∧ (mixKind P w).is k v = true) :
    ∀ (m i : Nat) (s : Shared) (acc : List Key), n - i = m → i ≤ n → acc.length + n + 1 < scanBound + i → St i s → SetL P w s.heap S acc →
      (∀ s', Moved (S :: wr) G s s' → SetL P w s'.heap S (uniqK acc (ks.drop i)) → R (.ok (.ret .none)) s') →
      codeAny (model P w) A (.builtin "set.update.loop" ⟨[.ref S, .ref I], []⟩) R s := by
  have hSw : S ∉ wr := fun h => hSf (W.sub _ h)
  have hsub : ∀ b ∈ wr, b ∈ S :: wr := fun b hb => List.mem_cons_of_mem _ hb
  intro m
  induction m with
  | zero =>
    intro i s acc hk hi hb hst hS hR
    have hin : i = ks.length := by omega
    subst hin
    refine codeAny_builtin F.entry_set_update_loop ?_
    rw [Around.under_plainId F.plain_set_update_loop _]
    show wpAny _ A.in1 (pyNext (.ref I) >>= _) _ _ s
    rw [← hn] at hst
    refine wpAny_bind (W.done s _ _ hst fun s' hm => ?_)
    show wpAny _ A.in1 (ret Value.none) _ _ s'
    rw [List.drop_length] at hR
    exact wpAny_pure (hR s' (hm.mono hsub) (hS.keep fun o e => hm.heap S o hSw e))
  | succ m ih =>
    intro i s acc hk hi hb hst hS hR
    have hlt : i < n := by omega
    refine codeAny_builtin F.entry_set_update_loop ?_
    rw [Around.under_plainId F.plain_set_update_loop _]
    show wpAny _ A.in1 (pyNext (.ref I) >>= _) _ _ s
    refine wpAny_bind (W.item i s _ _ hlt hst fun v s' hP hst' hm => ?_)
    obtain ⟨k, hki, hkv⟩ := hval i v hP
    have hS' : SetL P w s'.heap S acc := hS.keep fun o e => hm.heap S o hSw e
    show wpAny _ A.in1 (holding [v] (setAdd S v) >>= _) _ _ s'
    refine wpAny_bind (wpAny_holding ?_)
    unfold setAdd
    refine wpAny_holding ?_
    refine wpAny_bind ((mixKind P w).pyHash hkv ?_)
    refine setL_add (s := { s' with toks := s'.toks + 1 }) hkv hS' (by omega) fun b h' hsb hS2 => ?_
    obtain ⟨hil, hie⟩ := List.getElem?_eq_some_iff.mp hki
    have hd : ks.drop i = k :: ks.drop (i + 1) := by rw [List.drop_eq_getElem_cons hil, hie]
    refine wpAny_pure ⟨plainId_quiet F.plain_set_update_loop _, ih (i + 1) _ (if memK k acc = true then acc else acc ++ [k]) (by omega) hlt (by
      split
      · omega
      · rw [List.length_append, List.length_singleton]; omega) (W.frame _ s' _ _ hst' (Nat.le_succ _) fun b hb o e => ?_) hS2 fun s'' hm'' hS'' => ?_⟩
    · rw [hsb.2 b (fun h : b = S => hSf (by rw [← h]; exact hb))]; exact e
    · refine hR s'' (Moved.trans W.gtrans ((hm.mono hsub).then_heap (Nat.le_succ _) fun b o hb e => ?_) hm'') ?_
      · rw [hsb.2 b (fun h : b = S => hb (by rw [h]; exact List.mem_cons_self))]; exact e
      · rw [hd]
        show SetL P w s''.heap S (if memK k acc = true then uniqK acc (ks.drop (i + 1)) else uniqK (acc ++ [k]) (ks.drop (i + 1)))
        split at hS''
        · rename_i h
          rw [if_pos h]
          exact hS''
        · rename_i h
          rw [if_neg h]
          exact hS''
theorem items_at {items : Array Value} {ks : List Key} (h : ItemsAre (mixKind P w) ks items.toList) : items.size = ks.length ∧ ∀ (i : Nat) (v : Value), items[i]? = some v → ∃ k, ks[i]? = some k ∧ (mixKind P w).is k v = true := by
  have key : ∀ {ks : List Key} {us : List Value}, ItemsAre (mixKind P w) ks us → us.length = ks.length ∧ ∀ (i : Nat) (v : Value), us[i]? = some v → ∃ k, ks[i]? = some k ∧ (mixKind P w).is k v = true := by
    intro ks us h
    induction h with
    | nil => exact ⟨rfl, fun i v h => by simp at h⟩
    | cons a t ih =>
      refine ⟨by rw [List.length_cons, List.length_cons, ih.1], fun i v h => ?_⟩
      cases i with
      | zero => cases h; exact ⟨_, rfl, a⟩
      | succ i => exact ih.2 i v h
  obtain ⟨a, b⟩ := key h
  exact ⟨by rw [← a, Array.length_toList], fun i v hv => b i v (by rw [Array.getElem?_toList]; exact hv)⟩
set_option maxHeartbeats 3200000 in
/-- set(xs) of a list, a tuple -/
theorem call_setK {l : Addr} {items : Array Value} {ks : List Key} {Q : Value → Shared → Prop} (hh : A.handled = none) (hl : s.heap.IsList l items ∨ s.heap.IsTuple l items) (hi : ItemsAre (mixKind P w) ks items.toList) (hfew : ks.length ≤ 4000)
    (h : ∀ (h' : Heap) (tk : Nat), SetL P w h' s.heap.objs.size (uniqK [] ks) → (∀ b o, s.heap.get? b = some o → h'.get? b = some o) → Q (.ref s.heap.objs.size) { s with heap := h', toks := tk }) :
    wpAny (model P w) A (call (.type "set") [.ref l]) Q E s := by
  obtain ⟨hisz, hval⟩ := items_at hi
  obtain ⟨c, tl, hmro⟩ := F.called_set.mro
  have hmade := F.called_set.made
  have hsub := F.called_set.sub
  refine wpAny_call (codeAny_of_tree ?_)
  show wpAny _ _ (callAny (.type "set") _) _ _ _
  refine wpAny_pure ⟨Code.quiet_builtin _ (by decide +kernel), codeAny_builtin F.entry_type_call ?_⟩
  rw [Around.under_plain (weight_type_call_type "set" [.ref l] []) rfl]
  have h1 := F.called_set.notType
  have h2 := F.called_set.canCreate
  have hct := F.typeCall_set_1 (.ref l)
  repeat (any_goals (first | assumption | wp_step))
  refine codeAny_mono (code_set_led1 (.ref l) (E := E) (Q₁ := fun obj s₁ => obj = .ref s.heap.objs.size ∧ s₁ = { s with heap := s.heap.push { cls := .type "set", dict := none, data := .set #[] 0 (.fresh 0 0 (!w.params.followText "set-order")) } }) ⟨rfl, rfl⟩) fun r s₁ hr => ?_
  cases r with
  | error e => exact hr
  | ok fl =>
    cases fl with
    | ret obj =>
      obtain ⟨rfl, rfl⟩ := hr
      have hS : (s.heap.push { cls := .type "set", dict := none, data := .set #[] 0 (.fresh 0 0 (!w.params.followText "set-order")) }).get? s.heap.objs.size = some { cls := .type "set", dict := none, data := .set #[] 0 (.fresh 0 0 (!w.params.followText "set-order")) } := Heap.get?_push_size _ rfl
      have hT : Shared.TypeIs { s with heap := s.heap.push { cls := .type "set", dict := none, data := .set #[] 0 (.fresh 0 0 (!w.params.followText "set-order")) } } (.ref s.heap.objs.size) "set" := ⟨_, hS, rfl⟩
      have hli := F.called_set.init.lookup
      have hbi := F.called_set.init.bind (.ref s.heap.objs.size)
      repeat (any_goals (first | assumption | wp_step))
      refine codeAny_mono (codeAny_call_builtin (R := wants (fun r s₂ => r = .none ∧ ∃ h' tk, s₂ = { s with heap := h', toks := tk } ∧ SetL P w h' s.heap.objs.size (uniqK [] ks) ∧
          (∀ b o, s.heap.get? b = some o → h'.get? b = some o)) E) F.called_set.init.plain F.entry_set_init (check_set_init_1 hT ?_)) fun r₂ s₂ hr₂ => ?_
      · have hz1 : (s.heap.push { cls := .type "set", dict := none, data := .set #[] 0 (.fresh 0 0 (!w.params.followText "set-order")) }).objs.size = s.heap.objs.size + 1 := Heap.size_push ..
        have hh3 : A.in1.in1.in1.handled = none := by simp [hh]
        have hS0 : ∀ o2, SetL P w ((s.heap.push { cls := .type "set", dict := none, data := .set #[] 0 (.fresh 0 0 (!w.params.followText "set-order")) }).push o2) s.heap.objs.size [] := fun o2 => setL_fresh (Heap.get?_push_of_some _ hS)
        rcases hl with hl | hl
        · obtain ⟨ol, hol, hcl, nl, hdl⟩ := hl
          obtain ⟨ocls, odict, odata, oslots⟩ := ol
          simp only at hcl hdl
          subst hcl; subst hdl
          have hol' : (s.heap.push { cls := .type "set", dict := none, data := .set #[] 0 (.fresh 0 0 (!w.params.followText "set-order")) }).get? l = some { cls := .type "list", dict := odict, data := .seq items nl, slots := oslots } := Heap.get?_push_of_some _ hol
          have hsls := F.sub_list_set
          have hslf := F.sub_list_frozenset
          have hne : (Value.type "list" == Value.type "dict") = false := by decide
          have hl1 : (s.heap.push { cls := .type "set", dict := none, data := .set #[] 0 (.fresh 0 0 (!w.params.followText "set-order")) }).IsList l items := ⟨_, hol', rfl, nl, rfl⟩
          unfold Builtin.«set.__init__» noKeywords Builtin.Frozenset.updateFrom
          generalize hPI : pyIter = PI
          wp_walk
          subst hPI
          refine wpAny_pyIter_list hl1 ?_
          refine wpAny_bind (wpAny_runValue ?_)
          have hlS : l < s.heap.objs.size := Heap.lt_size hol
          have hneI : l ≠ (s.heap.push { cls := .type "set", dict := none, data := .set #[] 0 (.fresh 0 0 (!w.params.followText "set-order")) }).objs.size := by rw [hz1]; exact Nat.ne_of_lt (Nat.lt_succ_of_lt hlS)
          have hSf : s.heap.objs.size ∉ [(s.heap.push { cls := .type "set", dict := none, data := .set #[] 0 (.fresh 0 0 (!w.params.followText "set-order")) }).objs.size, l] := by
            rw [hz1]; simp only [List.mem_cons, List.mem_singleton, List.not_mem_nil, or_false, not_or]
            exact ⟨Nat.ne_of_lt (Nat.lt_succ_self _), Nat.ne_of_gt hlS⟩
          refine set_loop ((Walks.list hh3 _ l hneI items).toS) s.heap.objs.size hSf ks hisz hval (items.size - 0) 0 _ [] (by omega) (Nat.zero_le _) (by unfold scanBound; rw [List.length_nil]; omega)
            ⟨⟨_, Heap.get?_push_size _ rfl, rfl, rfl⟩, (hl1.push _)⟩ (hS0 _) ?_
          intro s' hm hS'
          obtain ⟨h', g2, d', tk', os'⟩ := s'
          have eg : g2 = s.gens := hm.gens
          have ed : d' = s.drawn := hm.drawn
          have eo : os' = s.os := hm.os
          subst eg; subst ed; subst eo
          show wpAny _ _ _ _ _ _
          refine wpAny_pure ?_
          show wpAny _ _ (ret Value.none) _ _ _
          refine wpAny_pure ⟨rfl, h', tk', rfl, hS', fun b o e => ?_⟩
          have hbl := Heap.lt_size e
          exact hm.heap b o (by rw [hz1]; simp only [List.mem_cons, List.not_mem_nil, or_false, not_or]; exact ⟨Nat.ne_of_lt hbl, Nat.ne_of_lt (Nat.lt_succ_of_lt hbl)⟩) (Heap.get?_push_of_some _ (Heap.get?_push_of_some _ e))
        · obtain ⟨ol, hol, hcl, nl, hdl⟩ := hl
          obtain ⟨ocls, odict, odata, oslots⟩ := ol
          simp only at hcl hdl
          subst hcl; subst hdl
          have hol' : (s.heap.push { cls := .type "set", dict := none, data := .set #[] 0 (.fresh 0 0 (!w.params.followText "set-order")) }).get? l = some { cls := .type "tuple", dict := odict, data := .seq items nl, slots := oslots } := Heap.get?_push_of_some _ hol
          have hsls := F.sub_tuple_set
          have hslf := F.sub_tuple_frozenset
          have hne : (Value.type "tuple" == Value.type "dict") = false := by decide
          have hl1 : (s.heap.push { cls := .type "set", dict := none, data := .set #[] 0 (.fresh 0 0 (!w.params.followText "set-order")) }).IsTuple l items := ⟨_, hol', rfl, nl, rfl⟩
          unfold Builtin.«set.__init__» noKeywords Builtin.Frozenset.updateFrom
          generalize hPI : pyIter = PI
          wp_walk
          subst hPI
          refine wpAny_pyIter_tuple hl1 ?_
          refine wpAny_bind (wpAny_runValue ?_)
          have hlS : l < s.heap.objs.size := Heap.lt_size hol
          have hneI : l ≠ (s.heap.push { cls := .type "set", dict := none, data := .set #[] 0 (.fresh 0 0 (!w.params.followText "set-order")) }).objs.size := by rw [hz1]; exact Nat.ne_of_lt (Nat.lt_succ_of_lt hlS)
          have hSf : s.heap.objs.size ∉ [(s.heap.push { cls := .type "set", dict := none, data := .set #[] 0 (.fresh 0 0 (!w.params.followText "set-order")) }).objs.size, l] := by
            rw [hz1]; simp only [List.mem_cons, List.mem_singleton, List.not_mem_nil, or_false, not_or]
            exact ⟨Nat.ne_of_lt (Nat.lt_succ_self _), Nat.ne_of_gt hlS⟩
          refine set_loop ((Walks.tuple hh3 _ l hneI items).toS) s.heap.objs.size hSf ks hisz hval (items.size - 0) 0 _ [] (by omega) (Nat.zero_le _) (by unfold scanBound; rw [List.length_nil]; omega)
            ⟨⟨_, Heap.get?_push_size _ rfl, rfl, rfl⟩, (hl1.push _)⟩ (hS0 _) ?_
          intro s' hm hS'
          obtain ⟨h', g2, d', tk', os'⟩ := s'
          have eg : g2 = s.gens := hm.gens
          have ed : d' = s.drawn := hm.drawn
          have eo : os' = s.os := hm.os
          subst eg; subst ed; subst eo
          show wpAny _ _ _ _ _ _
          refine wpAny_pure ?_
          show wpAny _ _ (ret Value.none) _ _ _
          refine wpAny_pure ⟨rfl, h', tk', rfl, hS', fun b o e => ?_⟩
          have hbl := Heap.lt_size e
          exact hm.heap b o (by rw [hz1]; simp only [List.mem_cons, List.not_mem_nil, or_false, not_or]; exact ⟨Nat.ne_of_lt hbl, Nat.ne_of_lt (Nat.lt_succ_of_lt hbl)⟩) (Heap.get?_push_of_some _ (Heap.get?_push_of_some _ e))
      · cases r₂ with
        | error e => exact hr₂
        | ok fl₂ =>
          cases fl₂ with
          | ret r =>
            obtain ⟨rfl, h', tk, rfl, hS', hk'⟩ := hr₂
            repeat (any_goals (first | assumption | wp_step))
            exact h _ _ hS' hk'
          | _ => exact hr₂.elim
    | _ => exact hr.elim
end
end PL

set_option Elab.async false
set_option linter.all false
set_option maxRecDepth 100000
namespace PL
open PySem PySem.Spec PyProof.Rows L2 PySem.W

section
variable {X : Cx} {K : PySem.W.Frag} {e e1 tg o : Expr} {O : List Nat} {f g : Env → Option D} {fe : Env → Option (D × Env)} {as : Env → Option (List D)} {pos p p2 q apos cpos : Pos} {Hd H : Hp}
/-! ### sorted of lists, tuples, dicts -/
def sortedA : List D → Option D
  | [.list ds] => sortedD [.list ds]
  | [.tuple ds] => if sortOk ds then some (.list (sortedL ds)) else none
  | [.dict kvs] => if (kvs.all fun p => keyZ p.1) = true ∧ sortOk (kvs.map (·.1)) = true then some (.list (sortedL (kvs.map (·.1)))) else none
  | _ => none
theorem reads_lt {h : Heap} {v : Value} {d : D} {as : List Addr} (r : Reads h v d as) : ∀ b ∈ as, b < h.objs.size := by
  refine Reads.rec (motive_1 := fun v d as _ => ∀ b ∈ as, b < h.objs.size) (motive_2 := fun vs ds as _ => ∀ b ∈ as, b < h.objs.size) ?_ ?_ ?_ ?_ ?_ ?_ ?_ ?_ ?_ r
  · intro b hb; cases hb
  · intro _ b hb; cases hb
  · intro _ _ b hb; cases hb
  · intro _ _ b hb; cases hb
  · intro a o vs n xs as h1 _ _ _ ih b hb
    rcases List.mem_cons.mp hb with rfl | hb
    · exact Heap.lt_size h1
    · exact ih b hb
  · intro a o vs n xs as h1 _ _ _ ih b hb
    exact ih b hb
  · intro a o es n kvs as bs h1 _ _ _ _ ih1 ih2 b hb
    rcases List.mem_append.mp hb with hb | hb
    · rcases List.mem_cons.mp hb with rfl | hb
      · exact Heap.lt_size h1
      · exact ih1 b hb
    · exact ih2 b hb
  · intro b hb; cases hb
  · intro v d as vs ds bs _ _ ih1 ih2 b hb
    rcases List.mem_append.mp hb with hb | hb
    · exact ih1 b hb
    · exact ih2 b hb
theorem sorted_by {pins : List (Addr × Obj)} {σ : L2.St} {s : Shared} {a : Addr} {Q : VK} {l : List D} (hc : X.calm = true) (hu : X.A.units + 64 < cLine) (I : L2.Inv X pins σ H s) (eh : Ex Hd H)
    (hcol : ∀ Qc : List Value → Shared → Prop, (∀ s1 vs xs ds, (∀ b o, s.heap.get? b = some o → s1.heap.get? b = some o) → s1.gens = s.gens → s1.os = s.os → Vals xs vs → Rps X.K Hd xs ds → sortOk ds = true → ds.length ≤ sizeLine → sortedL ds = l →
      (∃ as, ReadsAll s1.heap vs ds as) → Qc vs s1) → wpAny (model X.prog X.w) X.A.in1 (collect (.ref a)) Qc X.xe s)
    (hq : ∀ v Hd' H', Gr Hd H Hd' H' → Res X.K .fre H Hd' H' v (.list l) → Q v H') : wpAny (model X.prog X.w) X.A (call (.builtin "sorted") [.ref a]) (EP X pins σ Q) X.xe s := by
  refine Calls.call_function_entry PyProof.Rows.kind_sorted PyProof.Rows.plain_sorted PyProof.Rows.entry_sorted (PyProof.Rows.args_sorted1 _) ?_
  unfold Builtin.«sorted»
  refine wpAny_bind (m := checkCount "sorted" 1 1 _) (wpAny_pure ?_)
  refine wpAny_bind (hcol _ fun s1 vs xs ds k1 g1 o1 rv r hs hl e ⟨as, rd⟩ => ?_)
  have I1 : L2.Inv X pins σ H s1 := I.call' (ch := []) o1 (Un.kept k1) (I.hok.kept k1) (by rw [g1]; exact I.bare) fun _ z => nomatch z
  obtain ⟨h1, h2, h3⟩ := sortOk_all hs
  obtain ⟨e1, e2⟩ := each_zip (K := X.K) rv r rd
  have hlr := r.length
  have hlv := rv.length
  have em : (xs.zip ds).map (·.2) = ds := List.map_snd_zip (by omega)
  have en : (xs.zip ds).length = ds.length := by rw [List.length_zip]; omega
  refine wpAny_bind (wpAny_newList ?_ (by omega))
  have hoL : (s1.heap.push (seqObj "list" vs.toArray 0)).get? s1.heap.objs.size = some (seqObj "list" vs.toArray 0) := Heap.get?_push_size _ rfl
  refine wpAny_bind (wpAny_holding (list_sort_data (s := { s1 with heap := s1.heap.push (seqObj "list" vs.toArray 0) }) (bs := xs.zip ds) (enc := fun b => b.2) (R := fun v (b : V × D) => RelV b.1 v ∧ Rp X.K Hd b.1 b.2) hoL e1 (e2.mono fun v b ⟨as, r⟩ => ⟨as, PyProof.Rows.Reads.keeps (fun _ _ q => Heap.get?_push_of_some _ q) r, fun hm => Nat.lt_irrefl _ (reads_lt r _ hm)⟩)
    (by rw [em]; exact fun d hd e he => h2 d hd e he) (by rw [em]; exact h3) (by omega) (fun b hb => ?_) fun out ho eo => ?_))
  · have hb2 : b.2 ∈ ds := by rw [← em]; exact List.mem_map_of_mem hb
    have := okD_depth (h1 _ hb2)
    show X.A.in1.units + 1 + b.2.depth < cLine
    show X.A.units + 1 + 1 + b.2.depth < cLine
    omega
  · obtain ⟨p1, p2⟩ := each_out eo
    rw [sort_zip (by omega)] at p2
    have hlen : (((xs.zip ds).mergeSort (dataLe false fun b => b.2)).map (·.1)).length = ds.length := by rw [List.length_map, List.length_mergeSort, en]
    obtain ⟨c, hcc⟩ := sortedHeap_at (vs := vs) (out := out.toArray) hoL
    have nf : H s1.heap.objs.size = none := I1.hok.fresh (Nat.le_refl _)
    have kk : ∀ b o, s1.heap.get? b = some o → (sortedHeap (s1.heap.push (seqObj "list" vs.toArray 0)) s1.heap.objs.size vs out.toArray).get? b = some o := fun b o q => by
      have hlt := Heap.lt_size q
      rw [sortedHeap_old (Nat.ne_of_lt hlt) (by rw [size_push']; exact Nat.lt_succ_of_lt hlt)]
      exact Heap.get?_push_of_some _ q
    refine wpAny_pure ⟨_, rfl, .ref s1.heap.objs.size, upd H s1.heap.objs.size (.lst (((xs.zip ds).mergeSort (dataLe false fun b => b.2)).map (·.1))), ?_, rfl, ?_⟩
    · refine I1.call' (ch := []) rfl (Un.laid kk (Nat.le_refl _) nf) (I1.hok.laid kk (Nat.le_refl _) ⟨by rw [hlen]; exact hl, out, c, p1, hcc⟩) I1.bare fun _ z => nomatch z
    · exact hq _ Hd _ (Gr.own eh nf) ⟨_, rfl, nf, Evl.fresh_back eh nf, .lst upd_same (by rw [← e]; exact p2) (by rw [hlen]; exact hl)⟩
theorem keys_readsAll {h : Heap} {P : Program} {w : World} {ks : List Key} {us : List Value} (i : ItemsAre (mixKind P w) ks us) : ∃ as, ReadsAll h us (ks.map keyD) as := ⟨_, keys_reads i⟩
theorem keyZ_rps : ∀ {ks : List Key}, (∀ k ∈ ks, keyZ (keyD k) = true) → Rps K Hd (ks.map kV) (ks.map keyD)
  | [], _ => .nil
  | k :: ks, h => .cons (keyZ_rp (h k List.mem_cons_self)) (keyZ_rps fun j hj => h j (.tail _ hj))
theorem items_vals {P : Program} {w : World} : ∀ {ks : List Key} {us : List Value}, ItemsAre (mixKind P w) ks us → Vals (ks.map kV) us
  | [], _, .nil => .nil
  | k :: ks, _, .cons a t => .cons (keyIs_rel (show keyIs k _ = true from a)) (items_vals t)
theorem cr_sortedA (hc : X.calm = true) (hu : X.A.units + 64 < cLine) : CallR X (.builtin "sorted") (rN X.K sortedA .fre) := by
  intro pins s σ H xs us Q I rx ⟨Hd, ds, z, eh, t, hk, q⟩
  unfold sortedA at hk
  split at hk
  · exact cr_sortedL hu pins s σ H xs us Q I rx ⟨Hd, _, z, eh, t, hk, q⟩
  · split at hk
    · rename_i hs
      cases hk
      obtain ⟨x, rfl, tx⟩ := paired1 t
      obtain ⟨u, rfl, ru⟩ := vals1 rx
      cases tx with
      | @tup a ys _ k1 k2 kz =>
        cases ru
        obtain ⟨its, rv, ⟨o, ho, ho2, n, ho3⟩, hz⟩ := I.tuple ((tu_mono (eh) k1).sq)
        have hl := k2.length
        have hl2 := rv.length
        refine sorted_by hc hu I eh (fun Qc hQ => PySem.wpAny_collect_seq a (.inr rfl) ho ho2 ho3 (fun h' kp => ?_) (by rw [List.size_toArray]; omega)) q
        rw [List.toList_toArray]
        obtain ⟨as, rd⟩ := (k2.mono eh).reads I (clnAll_of (sortOk_all hs).1) rv
        refine hQ _ its ys _ kp rfl rfl rv k2 hs (by omega) rfl ⟨as, PyProof.Rows.ReadsAll.keeps kp rd⟩
    · cases hk
  · split at hk
    · rename_i kvs hs
      cases hk
      obtain ⟨x, rfl, tx⟩ := paired1 t
      obtain ⟨u, rfl, ru⟩ := vals1 rx
      cases tx with
      | @scr a ns h1 => simp [keyZ] at hs
      | @kt a xs ds h1 h2 h3 => simp [keyZ] at hs
      | @dK a ws ds h1 h2 =>
        cases ru
        obtain ⟨z, lo, vs, rel, dd⟩ := dk_rd I.hok h1
        obtain ⟨ep, hat⟩ := dd.dictAt
        have hll := h2.length
        rw [List.length_map] at hll
        have ek : ((ws.map fun p => keyD p.1).zip ds).map (·.1) = (ws.map (·.1)).map keyD := by rw [List.map_fst_zip (by rw [List.length_map]; omega), List.map_map]; rfl
        have ekz : ∀ k ∈ ws.map (·.1), keyZ (keyD k) = true := fun k hk => by
          have hm : keyD k ∈ ((ws.map fun p => keyD p.1).zip ds).map (·.1) := by rw [ek]; exact List.mem_map_of_mem hk
          obtain ⟨y, hy, ey⟩ := List.mem_map.mp hm
          rw [← ey]
          exact List.all_eq_true.mp hs.1 y hy
        have hkk := rel.keys
        refine sorted_by hc hu I eh (fun Qc hQ => PySem.W.kdu_collect (A := X.A.in1) (PySem.W.kdl_dict (knd := mixKind X.prog X.w) (kvs := vs) (ep := ep) lo) (I.ok.hd hc) hat (by rw [← rel.length]; exact z) fun h' tk acc kp hacc => ?_) q
        have hi : ItemsAre (mixKind X.prog X.w) (ws.map (·.1)) acc.toList := by
          rw [hkk]
          exact items_of (by rw [Array.length_toList, hacc.1, List.length_map]) fun i v hv => by
            obtain ⟨k, x, a1, a2⟩ := hacc.2 i v (by rw [← Array.getElem?_toList]; exact hv)
            exact ⟨k, by rw [List.getElem?_map, a1]; rfl, a2⟩
        refine hQ _ acc.toList ((ws.map (·.1)).map kV) ((ws.map (·.1)).map keyD) kp rfl rfl (items_vals hi) (keyZ_rps ekz) (by rw [← ek]; exact hs.2) (by rw [List.length_map, List.length_map]; exact z) (by rw [ek]) (keys_readsAll hi)
      | @dT a ws ds h1 h2 =>
        cases ws with
        | nil =>
          cases ru
          obtain ⟨z, lo, xs, rel, dd⟩ := dt_rd I.hok h1
          obtain ⟨ep, hat⟩ := (emptyK rel dd).dictAt
          refine sorted_by hc hu I eh (fun Qc hQ => PySem.W.kdu_collect (A := X.A.in1) (PySem.W.kdl_dict (knd := mixKind X.prog X.w) (kvs := []) (ep := ep) lo) (I.ok.hd hc) hat (Nat.zero_le _) fun h' tk acc kp hacc => ?_) q
          have e0 : acc.toList = [] := List.eq_nil_of_length_eq_zero (by rw [Array.length_toList, hacc.1]; rfl)
          refine hQ _ acc.toList [] [] kp rfl rfl (by rw [e0]; exact .nil) .nil hs.2 (Nat.zero_le _) rfl ⟨[], by rw [e0]; exact .nil⟩
        | cons p ws =>
          cases h2 with
          | cons r1 r2 =>
            have h := hs.1
            rw [List.map_cons, List.zip_cons_cons, List.all_cons, keyZ_key] at h
            simp at h
    · cases hk
  · cases hk
where
  items_of {P : Program} {w : World} : ∀ {ks : List Key} {us : List Value}, us.length = ks.length → (∀ (i : Nat) (v : Value), us[i]? = some v → ∃ k, ks[i]? = some k ∧ (mixKind P w).is k v = true) → ItemsAre (mixKind P w) ks us
    | [], [], _, _ => .nil
    | k :: ks, u :: us, h, f => by
      obtain ⟨k', e, i⟩ := f 0 u rfl
      cases e
      exact .cons i (items_of (Nat.succ.inj h) fun i v hv => f (i + 1) v (by simpa using hv))
/-! ### xs.index(x) -/
def indexD (d e : D) : Option D := match d with
  | .list ds => if (okD e && okD (.list ds) && e.canLay0 && PyData.canLayAll0 ds) = true then (ds.findIdx? fun y => PyData.eqv y e).map (fun (j : Nat) => PyData.int (j : Int)) else none
  | _ => none
def rIx (K : PySem.W.Frag) : V → List V → Hp → VK → Prop := fun x xs H Q => ∃ (Hd : Hp) (a : Addr) (ys : List V) (y : V) (d : D) (ds : List D) (j : Nat), Ex Hd H ∧ x = .ref a ∧ xs = [y] ∧ SqL K H a ys ∧ Rps K Hd ys ds ∧ Tp K Hd H y d ∧ okD d = true ∧ okD (.list ds) = true ∧ d.canLay0 = true ∧
  PyData.canLayAll0 ds = true ∧ ds.findIdx? (fun y => PyData.eqv y d) = some j ∧ Q (.int (j : Nat)) H
theorem mt_ix (hu : X.A.units + 64 < cLine) : MtR X "list.index" (rIx X.K) := by
  intro pins s σ H x xs v us Q I rx rxs h
  obtain ⟨Hd, a, ys, y, d, ds, j, eh, rfl, rfl, hs, rl, rd, o1, o2, c1, c2, hj0, q⟩ := h
  cases rx
  cases rxs with
  | cons ry rt =>
    rename_i uy ut
    cases rt
    have dl : cln d = true := cln_plain _ (okD_plain o1)
    obtain ⟨bs, r1⟩ := (rd.deep eh (okD_plain o1)).reads I dl uy ry
    have pl : PyData.plainAll ds = true := by
      have := okD_plain o2
      simpa [PyData.plain] using this
    obtain ⟨its, rv, ⟨⟨cls, dd, data, sls⟩, n, ho, hc, hdn, hdt⟩, hlen⟩ := I.list hs
    simp only at hc hdt
    subst hc hdt
    obtain ⟨as, h4⟩ := (rl.mono eh).reads I (by
      have := cln_plain _ (okD_plain o2)
      simpa [cln] using this) rv
    have hn : its.length = ds.length := SeqAt.ReadsAll.length ds its as h4
    have hmap : its.map (SeqAt.readOf s.heap) = ds := SeqAt.readsAll_map ds its as c2 h4
    have hvl := rv.length
    have hsl := sizeLine_eq
    obtain ⟨hjd, hz, hno⟩ := List.findIdx?_eq_some_iff_getElem.mp hj0
    have hj : j < its.toArray.size := by rw [List.size_toArray]; omega
    have at_ : ∀ (m : Nat) (hm : m < its.toArray.size) (hm2 : m < ds.length), SeqAt.readOf s.heap its.toArray[m] = ds[m] := by
      intro m hm hm2
      have hml : m < its.length := by simpa using hm
      have e1 : (its.map (SeqAt.readOf s.heap))[m]? = ds[m]? := by rw [hmap]
      rw [List.getElem?_map, List.getElem?_eq_getElem hml, List.getElem?_eq_getElem hm2] at e1
      have e2 := Option.some.inj e1
      simpa using e2
    have dd1 := okD_depth o1
    refine call_meets PySem.F.slot_list_index ⟨_, ho, rfl⟩ PySem.F.entry_list_index (PySem.F.args_list_index_2 _ _)
      (SeqAt.list_indexAt a its.toArray n dd sls uy (fun u => PyData.eqv (SeqAt.readOf s.heap u) d) j hj (by rw [List.size_toArray] at hj; omega) ?_ ?_) ⟨ho, SeqAt.items_eqAt (vs := its.toArray) (show ReadsAll s.heap its.toArray.toList ds as from h4) r1 c2 c1 (by omega), ?_⟩
    · show PyData.eqv (SeqAt.readOf s.heap its.toArray[j]) d = true
      rw [at_ j hj hjd]
      exact hz
    · intro m hm hmj
      show PyData.eqv (SeqAt.readOf s.heap its.toArray[m]) d = false
      rw [at_ m hm (by omega)]
      exact Bool.not_eq_true _ ▸ (by simpa using hno m hmj)
    · exact ⟨.int (j : Nat), H, I.tok _, ⟨_, rfl⟩, q⟩
theorem p_index (hu : X.A.units + 64 < cLine) (ho : PE X o (tP X.K .bor O f)) (he : PE X e (tP X.K .bor O g)) (hbase : attributeBase o "index" X.env (eval o X.env) = eval o X.env := by rfl)
    (hfew : ((backTo cpos (starEach [e] X.env)).all (fun x => !x.1) && (backToKw cpos (keywordEach [] X.env)).all (fun x => x.1.isSome)
      && decide ([e].length + ([] : List Keyword).length + (if ([] : List Keyword).isEmpty then 0 else 1) < 30)) = true := by rfl)
    (hline : (apos.endLine == cpos.line) = true := by rfl) (hs : starEach [e] X.env = (false, eval e X.env) :: starEach [] X.env := by rfl) (hplain : (backTo cpos (starEach [] X.env)).any (·.1) = false := by rfl) :
    PE X (.Call (.Attribute o "index" apos) [e] [] cpos) (tP X.K .dat O (op2 indexD f g)) :=
  PE.imp (pe_bm PySem.F.plainAttrs_list PySem.F.slot_list_index PySem.F.type_list_index (mt_ix hu) ho (p_aconsB he p_anil hs) hbase hfew hline hs hplain) fun σ H Q ⟨fc, ρ, Hd, z, S, hf, q⟩ => by
    unfold op2 at hf
    obtain ⟨d1, h1, hf⟩ := bind_some hf
    obtain ⟨d2, h2, hf⟩ := bind_some hf
    unfold indexD at hf
    split at hf
    · rename_i ds _
      split at hf
      · rename_i hc
        obtain ⟨j, hj, rfl⟩ := Option.map_eq_some_iff.mp hf
        have q1 := Bool.and_eq_true_iff.mp hc
        have q2 := Bool.and_eq_true_iff.mp q1.1
        have q3 := Bool.and_eq_true_iff.mp q2.1
        refine ⟨fc, ρ, Hd, _, S, h1, fun v Hd1 H1 g1 r1 => ?_⟩
        have fin : ∀ a xs, v = V.ref a → SqL X.K H1 a xs → (∀ Hd2 H2, Gr Hd1 H1 Hd2 H2 → SqL X.K H2 a xs) → Rps X.K Hd1 xs ds → tyV X.K "list" v H1 ∧ (tPs X.K .bor O (acons g anil)) σ H1 fun ys H2 => rIx X.K v ys H2 Q := by
          intro a xs ev hq hk rs
          subst ev
          refine ⟨.inl ⟨rfl, _, hq⟩, fc, ρ, Hd1, [d2], S.grow g1, by show (g ρ).bind _ = _; rw [h2]; rfl, fun ys Hd2 H2 g2 r2 => ?_⟩
          obtain ⟨y, rfl, ry⟩ := paired1 r2
          exact ⟨Hd2, a, xs, y, d2, ds, j, g2.s, rfl, rfl, hk _ _ g2, rs.mono g2.d, ry, q3.1, q3.2, q2.2, q1.2, hj, q (.int (j : Int)) Hd2 H2 (g1.trans g2) (.int _)⟩
        cases r1 with
        | @lst a xs _ k1 k2 hz => exact fin a xs rfl (.inl k1) (fun Hd2 H2 g2 => .inl (rd_mono g2.h k1)) k2
      · cases hf
    · cases hf
/-! ### enumerate -/
def enumA : List D → Option (List D)
  | [.list ds] => some ((List.range ds.length).zip ds |>.map fun p => kt [.int (p.1 : Int), p.2])
  | _ => none
def enumI (as : Env → Option (List D)) : Env → Option (List D) := fun ρ => (as ρ).bind enumA
/-! ### sorted(set(x)), len(set(x)) -/
def uniqD : List D → List D → List D
  | acc, [] => acc
  | acc, d :: ds => if acc.any (fun y => PyData.eqv y d) then uniqD acc ds else uniqD (acc ++ [d]) ds
def setOk (ds : List D) : Bool := (ds.all fun d => match d with | .int _ => true | _ => false) || (ds.all fun d => match d with | .str z => decide (z.length ≤ 16777216) | _ => false)
def sortSetD : D → Option D
  | .list ds => if setOk ds = true ∧ ds.length ≤ 4000 then some (.list (sortedL (uniqD [] ds))) else none
  | .tuple ds => if setOk ds = true ∧ ds.length ≤ 4000 then some (.list (sortedL (uniqD [] ds))) else none
  | _ => none
def lenSetD : D → Option D
  | .list ds => if setOk ds = true ∧ ds.length ≤ 4000 then some (.int ((uniqD [] ds).length : Int)) else none
  | .tuple ds => if setOk ds = true ∧ ds.length ≤ 4000 then some (.int ((uniqD [] ds).length : Int)) else none
  | _ => none
def kindOk (ks : List Key) : Bool := (ks.all fun k => match k with | .inl _ => true | _ => false) || (ks.all fun k => match k with | .inr z => decide (z.length ≤ 16777216) | _ => false)
def sortK (ks : List Key) : List Key := ks.mergeSort (dataLe false keyD)
theorem setOk_keys : ∀ {ds : List D}, setOk ds = true → ∃ ks : List Key, ds = ks.map keyD ∧ kindOk ks = true := fun {ds} h => by
  rcases Bool.or_eq_true_iff.mp h with h | h
  · refine ⟨ds.map fun d => match d with | .int i => .inl i | _ => .inl 0, ?_, Bool.or_eq_true_iff.mpr (.inl ?_)⟩
    · rw [List.map_map]
      exact (List.map_id' ds).symm.trans (List.map_congr_left fun d hd => by have := List.all_eq_true.mp h d hd; cases d <;> simp_all [keyD])
    · rw [List.all_map]
      exact List.all_eq_true.mpr fun d hd => by have := List.all_eq_true.mp h d hd; cases d <;> simp_all
  · refine ⟨ds.map fun d => match d with | .str i => .inr i | _ => .inl 0, ?_, Bool.or_eq_true_iff.mpr (.inr ?_)⟩
    · rw [List.map_map]
      exact (List.map_id' ds).symm.trans (List.map_congr_left fun d hd => by have := List.all_eq_true.mp h d hd; cases d <;> simp_all [keyD])
    · rw [List.all_map]
      exact List.all_eq_true.mpr fun d hd => by have := List.all_eq_true.mp h d hd; cases d <;> simp_all
theorem uniqD_key : ∀ (ks acc : List Key), uniqD (acc.map keyD) (ks.map keyD) = (uniqK acc ks).map keyD
  | [], acc => rfl
  | k :: ks, acc => by
    have e : ((acc.map keyD).any fun y => PyData.eqv y (keyD k)) = memK k acc := by
      unfold memK
      rw [List.any_map]
      congr 1
      funext j
      exact eqv_key j k
    show (if _ then _ else _) = _
    rw [e]
    show _ = List.map keyD (if _ then _ else _)
    by_cases h : memK k acc = true
    · rw [if_pos h, if_pos h]
      exact uniqD_key ks acc
    · rw [if_neg h, if_neg h, ← uniqD_key ks (acc ++ [k]), List.map_append]
      rfl
theorem memK_iff {k : Key} {l : List Key} : memK k l = true ↔ k ∈ l := by simp [memK]
theorem uniqK_nodup : ∀ (ks acc : List Key), acc.Nodup → (uniqK acc ks).Nodup
  | [], acc, h => h
  | k :: ks, acc, h => by
    unfold uniqK
    split
    · exact uniqK_nodup ks acc h
    · rename_i hk
      refine uniqK_nodup ks _ (List.nodup_append.mpr ⟨h, by simp, fun a ha b hb => ?_⟩)
      rw [List.mem_singleton.mp hb]
      intro e
      exact hk (memK_iff.mpr (e ▸ ha))
theorem uniqK_mem : ∀ (ks acc : List Key) (j : Key), j ∈ uniqK acc ks ↔ j ∈ acc ∨ j ∈ ks
  | [], acc, j => by simp [uniqK]
  | k :: ks, acc, j => by
    unfold uniqK
    split
    · rename_i hk
      rw [uniqK_mem ks acc j, List.mem_cons]
      have := memK_iff.mp hk
      constructor
      · rintro (h | h)
        · exact .inl h
        · exact .inr (.inr h)
      · rintro (h | h | h)
        · exact .inl h
        · exact .inl (h ▸ this)
        · exact .inr h
    · rw [uniqK_mem ks _ j, List.mem_append, List.mem_singleton, List.mem_cons]
      constructor
      · rintro ((h | h) | h)
        · exact .inl h
        · exact .inr (.inl h)
        · exact .inr (.inr h)
      · rintro (h | h | h)
        · exact .inl (.inl h)
        · exact .inl (.inr h)
        · exact .inr h
theorem toks_key {j k : Key} (h : keyToks (keyD j) = keyToks (keyD k)) : j = k := by
  cases j <;> cases k <;> simp [keyD, keyToks] at h
  · rw [h]
  · exact congrArg Sum.inr (str_of_cps (congrArg Array.toList h))
theorem sortK_perm {l m : List Key} (h : l.Perm m) : sortK l = sortK m := by
  have T := sortLe_total (listOrd itemOrd) false fun k : Key => keyToks (keyD k)
  unfold sortK
  refine List.Perm.eq_of_pairwise (le := fun a b => dataLe false keyD a b = true) (fun a b _ _ h1 h2 => toks_key ?_) (List.pairwise_mergeSort (fun a b c => T.trans a b c) (fun a b => by simpa using T.total a b) l) (List.pairwise_mergeSort (fun a b c => T.trans a b c) (fun a b => by simpa using T.total a b) m) ((List.mergeSort_perm _ _).trans (h.trans (List.mergeSort_perm _ _).symm))
  have h1' : (!(listOrd itemOrd).blt (keyToks (keyD b)) (keyToks (keyD a))) = true := h1
  have h2' : (!(listOrd itemOrd).blt (keyToks (keyD a)) (keyToks (keyD b))) = true := h2
  rw [Bool.not_eq_true'] at h1' h2'
  exact (listOrd itemOrd).total _ _ h2' h1'
theorem sortL_key (ks : List Key) : sortedL (ks.map keyD) = (sortK ks).map keyD := by
  unfold sortedL sortK
  exact (List.map_mergeSort (f := keyD) (r := dataLe false keyD) (fun a _ b _ => rfl)).symm
theorem kindOk_sub {l m : List Key} (h : kindOk m = true) (s : ∀ k ∈ l, k ∈ m) : kindOk l = true := by
  rcases Bool.or_eq_true_iff.mp h with h | h
  · exact Bool.or_eq_true_iff.mpr (.inl (List.all_eq_true.mpr fun k hk => List.all_eq_true.mp h k (s k hk)))
  · exact Bool.or_eq_true_iff.mpr (.inr (List.all_eq_true.mpr fun k hk => List.all_eq_true.mp h k (s k hk)))
theorem kindOk_sort {l : List Key} (h : kindOk l = true) : sortOk (l.map keyD) = true := by
  unfold sortOk
  simp only [Bool.and_eq_true, Bool.or_eq_true, List.all_map, List.all_eq_true, Function.comp_apply]
  refine ⟨⟨fun k _ => ?_, fun j hj k hk => ?_⟩, .inr fun k _ => ?_⟩
  · cases k <;> rfl
  · rcases Bool.or_eq_true_iff.mp h with h | h
    · have a := List.all_eq_true.mp h j hj
      have b := List.all_eq_true.mp h k hk
      cases j <;> cases k <;> simp_all [keyD, alike]
    · have a := List.all_eq_true.mp h j hj
      have b := List.all_eq_true.mp h k hk
      cases j <;> cases k <;> simp_all [keyD, alike]
  · cases k <;> rfl
theorem items_each {P : Program} {w : World} {h : Heap} : ∀ {ks : List Key} {us : List Value}, ItemsAre (mixKind P w) ks us →
    EachIs (fun v k => (mixKind P w).is k v = true) us ks ∧ EachIs (fun v k => Reads h v (keyD k) []) us ks
  | [], [], .nil => ⟨.nil, .nil⟩
  | k :: ks, u :: us, .cons a t => by
    obtain ⟨p, q⟩ := items_each (h := h) t
    exact ⟨.cons a p, .cons (key_reads a) q⟩
theorem each_items {P : Program} {w : World} : ∀ {ks : List Key} {us : List Value}, EachIs (fun v k => (mixKind P w).is k v = true) us ks → ItemsAre (mixKind P w) ks us
  | [], [], .nil => .nil
  | k :: ks, u :: us, .cons a t => .cons a (each_items t)
theorem items_good {P : Program} {w : World} : ∀ (us : List Value), (∀ v ∈ us, ∃ k, (mixKind P w).is k v = true) → ItemsAre (mixKind P w) (us.map fun v => keyV (0, v)) us
  | [], _ => .nil
  | u :: us, h => by
    obtain ⟨k, hk⟩ := h u List.mem_cons_self
    refine .cons ?_ (items_good us fun v hv => h v (.tail _ hv))
    show (mixKind P w).is (keyV (0, u)) u = true
    rw [keyV_of hk]
    exact hk
theorem sorted_setK {P : Program} {w : World} {A : Around} {E : Value → Shared → Prop} {s : Shared} {a : Addr} {l : List Key} {Q : Value → Shared → Prop} (R : SetL P w s.heap a l) (ndl : l.Nodup) (hh : A.handled = none) (hu : A.units + 64 < cLine) (hl : l.length ≤ 4000) (sk : kindOk l = true)
    (hQ : ∀ s' p (out : Array Value) (c : Nat), (∀ b o, s.heap.get? b = some o → s'.heap.get? b = some o) → s'.gens = s.gens → s'.os = s.os → s.heap.objs.size ≤ p →
      s'.heap.get? p = some (seqObj "list" out c) → ItemsAre (mixKind P w) (sortK l) out.toList → Q (.ref p) s') : wpAny (model P w) A (call (.builtin "sorted") [.ref a]) Q E s := by
  obtain ⟨o, es, ep, t, ho, hex, hd, g, nd, hm, hb, hf, hn, hr, hlw⟩ := R
  refine Calls.call_function_entry PyProof.Rows.kind_sorted PyProof.Rows.plain_sorted PyProof.Rows.entry_sorted (PyProof.Rows.args_sorted1 _) ?_
  unfold Builtin.«sorted»
  refine wpAny_bind (m := checkCount "sorted" 1 1 _) (wpAny_pure ?_)
  refine wpAny_bind (L2.collect_set (A := A.in1) hh ⟨o, ho, hex.1, hd⟩ hf hb hr hlw fun s1 vs k1 hz g1 o1 pm => ?_)
  have hvl : vs.length = l.length := by rw [pm.length_eq, List.length_map, Array.length_toList]; exact hn
  have pk : (vs.map fun v => keyV (0, v)).Perm l := by
    have q := pm.map fun v => keyV (0, v)
    rw [List.map_map] at q
    exact q.trans ((List.perm_ext_iff_of_nodup (l₁ := es.toList.map keyV) (l₂ := l) nd ndl).mpr fun k => by rw [← hm k, memK_iff])
  have hI : ItemsAre (mixKind P w) (vs.map fun v => keyV (0, v)) vs := items_good vs fun v hv => by
    obtain ⟨e, he, q⟩ := List.mem_map.mp (pm.mem_iff.mp hv)
    obtain ⟨k, hk, _⟩ := g e he
    exact ⟨k, by rw [← q]; exact hk⟩
  have sk2 : kindOk (vs.map fun v => keyV (0, v)) = true := kindOk_sub sk fun k hk => pk.mem_iff.mp hk
  obtain ⟨h1, h2, h3⟩ := sortOk_all (kindOk_sort sk2)
  have hs := sizeLine_eq
  refine wpAny_bind (wpAny_newList ?_ (by omega))
  have hoL : (s1.heap.push (seqObj "list" vs.toArray 0)).get? s1.heap.objs.size = some (seqObj "list" vs.toArray 0) := Heap.get?_push_size _ rfl
  obtain ⟨e1, e2⟩ := items_each (h := s1.heap.push (seqObj "list" vs.toArray 0)) hI
  refine wpAny_bind (wpAny_holding (list_sort_data (s := { s1 with heap := s1.heap.push (seqObj "list" vs.toArray 0) }) (bs := vs.map fun v => keyV (0, v)) (enc := keyD) (R := fun v k => (mixKind P w).is k v = true) hoL e1 (e2.mono fun v b r => ⟨[], r, fun h => nomatch h⟩)
    h2 h3 (by rw [List.length_map]; omega) (fun b _ => ?_) fun out ho eo => ?_))
  · show A.units + 1 + 1 + (keyD b).depth < cLine
    cases b <;> simp only [keyD, PyData.depth] <;> omega
  · obtain ⟨c, hcc⟩ := sortedHeap_at (vs := vs) (out := out.toArray) hoL
    refine wpAny_pure ⟨_, rfl, hQ _ s1.heap.objs.size out.toArray c (fun b u e => ?_) g1 o1 hz hcc ?_⟩
    · have q := k1 b u e
      have hlt := Heap.lt_size q
      show (sortedHeap (s1.heap.push (seqObj "list" vs.toArray 0)) s1.heap.objs.size vs out.toArray).get? b = some u
      rw [sortedHeap_old (Nat.ne_of_lt hlt) (by rw [size_push']; exact Nat.lt_succ_of_lt hlt)]
      exact Heap.get?_push_of_some _ q
    · rw [List.toList_toArray]
      have := each_items eo
      rwa [show (vs.map fun v => keyV (0, v)).mergeSort (dataLe false keyD) = sortK l from sortK_perm pk] at this
/-- what comes from a list or a tuple of keys -/
def tSet (K : PySem.W.Frag) (ta : TE) (R : List Key → VK → Hp → Prop) : TE := fun σ H Q => ta σ H fun x H1 => ∃ (a : Addr) (xs : List V) (ks : List Key), x = .ref a ∧ (SqL K H1 a xs ∨ SqT K H1 a xs) ∧ xs = ks.map kV ∧ ks.length ≤ 4000 ∧ kindOk ks = true ∧ R (uniqK [] ks) Q H1
theorem kV_key {P : Program} {w : World} {k : Key} {u : Value} (r : RelV (kV k) u) : (mixKind P w).is k u = true := by
  cases k with
  | inl i => obtain ⟨t, rfl⟩ := r; exact decide_eq_true rfl
  | inr z => obtain ⟨t, rfl⟩ := r; exact decide_eq_true rfl
theorem set_keys {P : Program} {w : World} : ∀ {ks : List Key} {us : List Value}, Vals (ks.map kV) us → ItemsAre (mixKind P w) ks us
  | [], [], .nil => .nil
  | k :: ks, u :: us, .cons r t => .cons (kV_key r) (set_keys t)
theorem set_made {pins : List (Addr × Obj)} {σ : L2.St} {s1 : Shared} {H1 : Hp} {a : Addr} {ks : List Key} {Q : Value → Shared → Prop} (hc : X.calm = true) (I1 : L2.Inv X pins σ H1 s1) (hq : SqL X.K H1 a (ks.map kV) ∨ SqT X.K H1 a (ks.map kV)) (hl : ks.length ≤ 4000)
    (h : ∀ (h' : Heap) (tk : Nat), SetL X.prog X.w h' s1.heap.objs.size (uniqK [] ks) → L2.Inv X pins σ H1 { s1 with heap := h', toks := tk } → Q (.ref s1.heap.objs.size) { s1 with heap := h', toks := tk }) :
    wpAny (model X.prog X.w) X.A (call (.type "set") [.ref a]) Q X.xe s1 := by
  rcases hq with hq | hq
  · obtain ⟨its, r, pl, hz⟩ := I1.list hq
    exact call_setK (I1.ok.hd hc) (.inl pl.isList) (by rw [List.toList_toArray]; exact set_keys r) hl fun h' tk S kp => h h' tk S (I1.kept kp)
  · obtain ⟨its, r, pl, hz⟩ := I1.tuple hq
    exact call_setK (I1.ok.hd hc) (.inr pl) (by rw [List.toList_toArray]; exact set_keys r) hl fun h' tk S kp => h h' tk S (I1.kept kp)
theorem uniqK_le {ks : List Key} (h : ks.length ≤ 4000) : (uniqK [] ks).length ≤ 4000 := by
  have := uniqK_len ks []
  rw [List.length_nil] at this
  omega
theorem uniqK_kind {ks : List Key} (h : kindOk ks = true) : kindOk (uniqK [] ks) = true := kindOk_sub h fun k hk => by
  rcases (uniqK_mem ks [] k).mp hk with h | h
  · cases h
  · exact h
theorem pe_sortSet {ta : TE} (hc : X.calm = true) (hu : X.A.units + 64 < cLine) (hg : Gl X "sorted") (hm : X.mg "sorted" = none) (hg2 : Gl X "set") (hm2 : X.mg "set" = none) (ha : PE X e ta)
    (na : starEach [e] X.env = (false, eval e X.env) :: starEach [] X.env := by rfl) : PE X (.Call (.Name "sorted" p) [.Call (.Name "set" p2) [e] [] q] [] pos) (tSet X.K ta fun l Q H1 => ∀ n, H1 n = none → Q (.ref n) (upd H1 n (.lst ((sortK l).map kV)))) := by
  refine ⟨fun pins s σ H Q I h => ?_⟩
  refine Call_ (ld_blt I hg hm PyProof.Rows.boot_sorted ?_)
  refine PyProof.Rows.callWith_builtin1 (PyProof.Rows.args_cons ?_ rfl) rfl rfl
  refine Call_ (ld_blt I hg2 hm2 boot_set ?_)
  refine PyProof.Rows.callWith_type1 (PyProof.Rows.args_cons (thn (ha.run pins s σ H _ I h) fun v s1 ⟨x, H1, I1, r1, q1⟩ => PyProof.Rows.args_nil ?_) na) na rfl
  obtain ⟨a, xs, ks, rfl, hq, rfl, hl, sk, q1⟩ := q1
  cases r1
  refine set_made hc I1 hq hl fun h' tk S I2 => PyProof.Rows.args_nil ?_
  refine sorted_setK S (uniqK_nodup ks [] List.nodup_nil) (I2.ok.hd hc) hu (uniqK_le hl) (uniqK_kind sk) fun s' n out c kp g1 o1 hn ho hi => ?_
  have I3 : L2.Inv X pins σ H1 { s1 with heap := h', toks := tk } := I2
  have nf : H1 n = none := I2.hok.fresh hn
  have hlen : ((sortK (uniqK [] ks)).map kV).length ≤ sizeLine := by
    have := uniqK_le hl
    have := sizeLine_eq
    rw [List.length_map]
    show ((uniqK [] ks).mergeSort _).length ≤ _
    rw [List.length_mergeSort]
    omega
  refine ⟨.ref n, upd H1 n (.lst ((sortK (uniqK [] ks)).map kV)), ?_, rfl, q1 n nf⟩
  exact I2.call' (ch := []) o1 (Un.laid kp hn nf) (I2.hok.laid kp hn ⟨hlen, out.toList, c, items_vals hi, ho⟩) (by show AllBare s'.gens; rw [g1]; exact I2.bare) fun _ z => nomatch z
theorem pe_lenSet {ta : TE} (hc : X.calm = true) (hg : Gl X "len") (hm : X.mg "len" = none) (hg2 : Gl X "set") (hm2 : X.mg "set" = none) (ha : PE X e ta)
    (na : starEach [e] X.env = (false, eval e X.env) :: starEach [] X.env := by rfl) : PE X (.Call (.Name "len" p) [.Call (.Name "set" p2) [e] [] q] [] pos) (tSet X.K ta fun l Q H1 => Q (.int (l.length : Nat)) H1) := by
  refine ⟨fun pins s σ H Q I h => ?_⟩
  refine Call_ (ld_blt I hg hm boot_len ?_)
  refine PyProof.Rows.callWith_builtin1 (PyProof.Rows.args_cons ?_ rfl) rfl rfl
  refine Call_ (ld_blt I hg2 hm2 boot_set ?_)
  refine PyProof.Rows.callWith_type1 (PyProof.Rows.args_cons (thn (ha.run pins s σ H _ I h) fun v s1 ⟨x, H1, I1, r1, q1⟩ => PyProof.Rows.args_nil ?_) na) na rfl
  obtain ⟨a, xs, ks, rfl, hq, rfl, hl, sk, q1⟩ := q1
  cases r1
  refine set_made hc I1 hq hl fun h' tk S I2 => PyProof.Rows.args_nil ?_
  obtain ⟨o, es, ep, t, ho, hex, hd, _, _, _, _, hf, hn, _⟩ := S
  have := uniqK_le hl
  exact call_len_set ho hex hd hf (by rw [hn] <;> omega) ⟨.int (uniqK [] ks).length, H1, I2.tok _, ⟨_, by rw [hn]⟩, q1⟩
/-- data that is a list or a tuple of keys -/
theorem set_of {Hd H : Hp} {v : V} {d : D} (r : Tp K Hd H v d) (s : Ex Hd H) {ds : List D} (hd : d = .list ds ∨ d = .tuple ds) (ok : setOk ds = true) : ∃ (a : Addr) (xs : List V) (ks : List Key), v = .ref a ∧ (SqL K H a xs ∨ SqT K H a xs) ∧ xs = ks.map kV ∧ ds = ks.map keyD ∧ kindOk ks = true := by
  have kv : ∀ {ks : List Key} {xs : List V}, Rps K Hd xs (ks.map keyD) → xs = ks.map kV := by
    intro ks
    induction ks with
    | nil => intro xs h; cases h; rfl
    | cons k ks ih =>
      intro xs h
      cases h with
      | cons r t =>
        rw [ih t]
        cases k <;> cases r <;> rfl
  obtain ⟨ks, rfl, hk⟩ := setOk_keys ok
  rcases hd with rfl | rfl
  · cases r with
    | @lst a xs _ k1 k2 hz => exact ⟨a, xs, ks, rfl, .inl (.inl k1), kv k2, rfl, hk⟩
  · cases r with
    | @tup a xs _ k1 k2 hz => exact ⟨a, xs, ks, rfl, .inr ((tu_mono (s) k1).sq), kv k2, rfl, hk⟩
theorem sortSet_inv {d z : D} (h : sortSetD d = some z) : ∃ ds, (d = .list ds ∨ d = .tuple ds) ∧ setOk ds = true ∧ ds.length ≤ 4000 ∧ z = .list (sortedL (uniqD [] ds)) := by
  unfold sortSetD at h
  split at h
  · split at h
    · rename_i g; cases h; exact ⟨_, .inl rfl, g.1, g.2, rfl⟩
    · cases h
  · split at h
    · rename_i g; cases h; exact ⟨_, .inr rfl, g.1, g.2, rfl⟩
    · cases h
  · cases h
theorem lenSet_inv {d z : D} (h : lenSetD d = some z) : ∃ ds, (d = .list ds ∨ d = .tuple ds) ∧ setOk ds = true ∧ ds.length ≤ 4000 ∧ z = .int ((uniqD [] ds).length : Int) := by
  unfold lenSetD at h
  split at h
  · split at h
    · rename_i g; cases h; exact ⟨_, .inl rfl, g.1, g.2, rfl⟩
    · cases h
  · split at h
    · rename_i g; cases h; exact ⟨_, .inr rfl, g.1, g.2, rfl⟩
    · cases h
  · cases h
theorem uniqD_k (ks : List Key) : uniqD [] (ks.map keyD) = (uniqK [] ks).map keyD := uniqD_key ks []
theorem kind_rps : ∀ {ks : List Key}, kindOk ks = true → Rps K Hd (ks.map kV) (ks.map keyD) := fun {ks} h => keyZ_rps fun k hk => by
  rcases Bool.or_eq_true_iff.mp h with h | h
  · have := List.all_eq_true.mp h k hk
    cases k <;> simp_all [keyD, keyZ]
  · have := List.all_eq_true.mp h k hk
    cases k <;> simp_all [keyD, keyZ]
theorem sortK_kind {ks : List Key} (h : kindOk ks = true) : kindOk (sortK ks) = true := kindOk_sub h fun k hk => (List.mergeSort_perm _ _).mem_iff.mp hk
theorem sortK_len {ks : List Key} : (sortK ks).length = ks.length := List.length_mergeSort _
theorem p_sortSet (hc : X.calm = true) (hu : X.A.units + 64 < cLine) (hg : Gl X "sorted") (hm : X.mg "sorted" = none) (hg2 : Gl X "set") (hm2 : X.mg "set" = none) (ha : PE X e (tP X.K .bor O f))
    (na : starEach [e] X.env = (false, eval e X.env) :: starEach [] X.env := by rfl) : PE X (.Call (.Name "sorted" p) [.Call (.Name "set" p2) [e] [] q] [] pos) (tP X.K .fre O (op1 sortSetD f)) :=
  PE.imp (pe_sortSet hc hu hg hm hg2 hm2 ha na) fun σ H Q ⟨fc, ρ, Hd, z, S, hf, q⟩ => by
    unfold op1 at hf
    obtain ⟨d, h1, hf⟩ := bind_some hf
    obtain ⟨ds, hd, ok, hl, rfl⟩ := sortSet_inv hf
    refine ⟨fc, ρ, Hd, d, S, h1, fun v Hd1 H1 g r => ?_⟩
    obtain ⟨a, xs, ks, rfl, hq, rfl, rfl, sk⟩ := set_of r g.s hd ok
    rw [List.length_map] at hl
    refine ⟨a, _, ks, rfl, hq, rfl, hl, sk, fun n nf => ?_⟩
    have := uniqK_le hl
    have := sizeLine_eq
    exact q _ Hd1 _ (g.trans (Gr.own g.s nf)) ⟨_, rfl, Evl.fresh_back g.h nf, Evl.fresh_back g.s nf, .lst upd_same (by rw [uniqD_k, sortL_key]; exact kind_rps (sortK_kind (uniqK_kind sk))) (by rw [List.length_map, sortK_len]; omega)⟩
theorem p_sortSetE (hc : X.calm = true) (hu : X.A.units + 64 < cLine) (hg : Gl X "sorted") (hm : X.mg "sorted" = none) (hg2 : Gl X "set") (hm2 : X.mg "set" = none) (ha : PE X e (tE X.K O fe))
    (na : starEach [e] X.env = (false, eval e X.env) :: starEach [] X.env := by rfl) : PE X (.Call (.Name "sorted" p) [.Call (.Name "set" p2) [e] [] q] [] pos) (tE X.K O (op1E sortSetD fe)) :=
  PE.imp (pe_sortSet hc hu hg hm hg2 hm2 ha na) fun σ H Q ⟨fc, ρ, Hd, z, ρ', S, hf, q⟩ => by
    unfold op1E at hf
    obtain ⟨d, h1, hf⟩ := bind_some hf
    obtain ⟨z0, h2, hf⟩ := bind_some hf
    cases hf
    obtain ⟨d, ρ1⟩ := d
    obtain ⟨ds, hd, ok, hl, rfl⟩ := sortSet_inv h2
    refine ⟨fc, ρ, Hd, d, ρ1, S, h1, fun v Hd1 H1 S1 e1 r => ?_⟩
    obtain ⟨a, xs, ks, rfl, hq, rfl, rfl, sk⟩ := set_of (r.tp S1.sub) S1.sub hd ok
    rw [List.length_map] at hl
    refine ⟨a, _, ks, rfl, hq, rfl, hl, sk, fun n nf => ?_⟩
    have := uniqK_le hl
    have := sizeLine_eq
    exact q _ _ _ (S1.grow (Gr.dat S1.sub nf)) (e1.trans (ex_upd (Evl.fresh_back S1.sub nf))) (.lst (.of upd_same) (by rw [uniqD_k, sortL_key]; exact kind_rps (sortK_kind (uniqK_kind sk))) (by rw [List.length_map, sortK_len]; omega))
theorem p_lenSet (hc : X.calm = true) (hg : Gl X "len") (hm : X.mg "len" = none) (hg2 : Gl X "set") (hm2 : X.mg "set" = none) (ha : PE X e (tP X.K .bor O f))
    (na : starEach [e] X.env = (false, eval e X.env) :: starEach [] X.env := by rfl) : PE X (.Call (.Name "len" p) [.Call (.Name "set" p2) [e] [] q] [] pos) (tP X.K .dat O (op1 lenSetD f)) :=
  PE.imp (pe_lenSet hc hg hm hg2 hm2 ha na) fun σ H Q ⟨fc, ρ, Hd, z, S, hf, q⟩ => by
    unfold op1 at hf
    obtain ⟨d, h1, hf⟩ := bind_some hf
    obtain ⟨ds, hd, ok, hl, rfl⟩ := lenSet_inv hf
    refine ⟨fc, ρ, Hd, d, S, h1, fun v Hd1 H1 g r => ?_⟩
    obtain ⟨a, xs, ks, rfl, hq, rfl, rfl, sk⟩ := set_of r g.s hd ok
    rw [List.length_map] at hl
    refine ⟨a, _, ks, rfl, hq, rfl, hl, sk, ?_⟩
    rw [uniqD_k, List.length_map] at q
    exact q _ Hd1 H1 g (.int _)
end
/-! ### slices with an effect -/
section
variable {X : Cx} {K : PySem.W.Frag} {a e : Expr} {lo hi : Option Expr} {O : List Nat} {fe : Env → Option (D × Env)} {pos p2 : Pos}
def noBE : Env → Option (Option Int × Env) := fun ρ => some (none, ρ)
def toBE (f : Env → Option (D × Env)) : Env → Option (Option Int × Env) := fun ρ => (f ρ).bind fun d => (asI d.1).map fun i => (some i, d.2)
def slcE2 (f : Env → Option (D × Env)) (lo hi : Env → Option (Option Int × Env)) : Env → Option (D × Env) := fun ρ => (f ρ).bind fun x => (lo x.2).bind fun l => (hi l.2).bind fun u => (slcD x.1 l.1 u.1).bind fun z => some (z, u.2)
def tPOE (K : PySem.W.Frag) (O : List Nat) (f : Env → Option (Option Int × Env)) : TO := fun σ H Q =>
  ∃ fc ρ Hd o ρ', SR K fc O ρ Hd σ H ∧ f ρ = some (o, ρ') ∧ ∀ Hd' H', SR K fc O ρ' Hd' σ H' → Ex Hd Hd' → Q o H'
theorem p_noBE : PO X none (tPOE X.K O noBE) := PO.imp po_none fun σ H Q ⟨fc, ρ, Hd, o, ρ', S, hf, q⟩ => by
  cases hf
  exact q Hd H S (Evl.Ex.refl _)
theorem p_toBE (ha : PE X a (tE X.K O fe)) : PO X (some a) (tPOE X.K O (toBE fe)) := PO.imp (po_some ha) fun σ H Q ⟨fc, ρ, Hd, o, ρ', S, hf, q⟩ => by
  unfold toBE at hf
  obtain ⟨d, h1, hf⟩ := bind_some hf
  obtain ⟨d, ρ2⟩ := d
  refine ⟨fc, ρ, Hd, d, ρ2, S, h1, fun v Hd1 H1 S1 e1 r1 => ?_⟩
  cases d with
  | int i =>
    cases hf
    cases r1
    exact ⟨i, rfl, q Hd1 H1 S1 e1⟩
  | _ => cases hf
theorem p_slcE2 {fl fh : Env → Option (Option Int × Env)} (ha : PE X a (tE X.K O fe)) (hl : PO X lo (tPOE X.K O fl)) (hh : PO X hi (tPOE X.K O fh)) : PE X (.Subscript a (.Slice lo hi none p2) pos) (tE X.K O (slcE2 fe fl fh)) :=
  PE.imp (pe_slice sl_2 ha hl hh) fun σ H Q ⟨fc, ρ, Hd, z, ρ', S, hf, q⟩ => by
    unfold slcE2 at hf
    obtain ⟨d, h1, hf⟩ := bind_some hf
    obtain ⟨l, h2, hf⟩ := bind_some hf
    obtain ⟨u, h3, hf⟩ := bind_some hf
    obtain ⟨z0, h4, hf⟩ := bind_some hf
    cases hf
    obtain ⟨d, ρ1⟩ := d
    obtain ⟨l, ρ2⟩ := l
    obtain ⟨u, ρ3⟩ := u
    refine ⟨fc, ρ, Hd, d, ρ1, S, h1, fun v Hd1 H1 S1 e1 r1 => ⟨fc, ρ1, Hd1, l, ρ2, S1, h2, fun Hd2 H2 S2 e2 => ⟨fc, ρ2, Hd2, u, ρ3, S2, h3, fun Hd3 H3 S3 e3 => ?_⟩⟩⟩
    have r3 : Rp X.K Hd3 v d := r1.mono (e2.trans e3)
    have e13 := (e1.trans e2).trans e3
    have h4 : slcD d l u = some _ := h4
    unfold slcD at h4
    split at h4
    · cases h4
      cases r3 with
      | @lst a xs _ k1 k2 hz => exact .inl ⟨a, xs, rfl, .inl (rd_mono S3.sub k1), fun p hp => q _ _ _ (S3.grow (Gr.dat S3.sub hp)) (e13.trans (ex_upd (Evl.fresh_back S3.sub hp))) (.lst (.of upd_same) (Rps.mono (ex_upd (Evl.fresh_back S3.sub hp)) (cut_rps k2 l u)) (Nat.le_trans (cutV_length _ _ _) hz))⟩
    · cases h4
      cases r3 with
      | @tup a xs _ k1 k2 hz =>
        refine .inr (.inl ⟨a, xs, rfl, (tu_mono (S3.sub) k1).sq, fun w => ?_, fun _ p o hp ho => ?_⟩)
        · have e0 : cutD _ l u = _ := cut_whole _ l u (by rw [← k2.length]; exact w)
          exact q _ _ _ S3 e13 (by rw [e0]; exact .tup k1 k2 hz)
        · exact q _ _ _ (S3.grow (Gr.dat S3.sub hp)) (e13.trans (ex_upd (Evl.fresh_back S3.sub hp))) (.tup (TU.new ho) (Rps.mono (ex_upd (Evl.fresh_back S3.sub hp)) (cut_rps k2 l u)) (Nat.le_trans (cutV_length _ _ _) hz))
    · cases h4
      cases r3 with
      | str _ hz => exact .inr (.inr ⟨_, rfl, hz, q _ _ _ S3 e13 (.str _ (Nat.le_trans (cutS_length _ l u) hz))⟩)
    · cases h4
end
end PL

namespace PL
open PySem PySem.Spec PyProof.Rows L2 PySem.W
/-- a script as data -/
abbrev scr (ns : List Int) : D := .dict [(.none, .list (ns.map .int))]
theorem sp_script {K : PySem.W.Frag} {H : Hp} {a : Addr} {ns : List Int} {k : List D → Option D} (hS : SqL K H a (ns.map V.int)) (hk : k [scr ns] = some (.bool true)) : SpP K 1 k [.ref a] H (fun v _ => v = .bl true) fun _ _ _ => False :=
  ⟨rfl, H, [scr ns], .bool true, Evl.Ex.refl _, .cons (.scr hS) .nil, hk, fun v Hd' H' g r => by cases r; rfl⟩
theorem ff_of {K : PySem.W.Frag} {mg : Str → Option Value} {x : Str} {st : Stmt} {fa : Addr} {fd : FuncData} {ps : List Str} (F : Fun K x x st fa fd) (hm : mg x = some (.ref fa))
    (h : ∀ (kV doc pm : Value) (an : Option Addr) (cdv ct : Value) (us : List Value), us.length = ps.length → bindArgs (PySem.W.fnOf x x (defArgs st) (defBody st) (defScope st) .none kV doc pm an cdv ct) ⟨us, []⟩ = pure (ps.zip us)) : Ff K mg x st ps := ⟨fa, fd, F, hm, F.binds h⟩
end PL

set_option Elab.async false
set_option linter.all false
set_option maxRecDepth 100000
namespace PL
open PySem PySem.Spec PyProof.Rows L2 PySem.W

/-! ### targets that are names and places in things: a, b[i] = .. -/
inductive Tg
  | nm (j : Nat)
  | sub (j : Nat) (fi : Env → Option (D × Env))
def setTg : List Tg → List D → Env → Option Env
  | [], [], ρ => some ρ
  | .nm j :: ts, d :: ds, ρ => setTg ts ds (ρ.set j (some d))
  | .sub j fi :: ts, d :: ds, ρ => (var j ρ).bind fun _ => (fi ρ).bind fun y => (var j y.2).bind fun c => (putD c y.1 d).bind fun c' => setTg ts ds (y.2.set j (some c'))
  | _, _, _ => none
def tgsS (ts : List Tg) (f : Env → Option (D × Env)) : Env → Option (Fl × Env) := fun ρ => (f ρ).bind fun x => match x.1 with
  | .tuple ds => (setTg ts ds x.2).bind fun ρ1 => some (.nx, ρ1)
  | _ => none
def TgsOk (K : PySem.W.Frag) (O : List Nat) (ts : List Tg) (t : TGs) : Prop := ∀ (fc : FC) (ρ : Env) (Hd : Hp) (σ : L2.St) (H : Hp) (vs : List V) (ds : List D) (ρ1 : Env) (Q : L2.St → Hp → Prop), SR K fc O ρ Hd σ H → Rps K Hd vs ds → setTg ts ds ρ = some ρ1 →
  (∀ Hd' σ' H', SR K fc O ρ1 Hd' σ' H' → Ex Hd Hd' → Q σ' H') → t vs σ H Q
theorem setTg_len : ∀ {ts : List Tg} {ds : List D} {ρ ρ1 : Env}, setTg ts ds ρ = some ρ1 → ds.length = ts.length
  | [], [], _, _, _ => rfl
  | [], _ :: _, _, _, h => by cases h
  | .nm j :: ts, [], _, _, h => by cases h
  | .sub j fi :: ts, [], _, _, h => by cases h
  | .nm j :: ts, d :: ds, ρ, ρ1, h => congrArg (· + 1) (setTg_len (ts := ts) (ds := ds) h)
  | .sub j fi :: ts, d :: ds, ρ, ρ1, h => by
    unfold setTg at h
    obtain ⟨_, _, h⟩ := bind_some h
    obtain ⟨_, _, h⟩ := bind_some h
    obtain ⟨_, _, h⟩ := bind_some h
    obtain ⟨_, _, h⟩ := bind_some h
    exact congrArg (· + 1) (setTg_len (ts := ts) (ds := ds) h)
section
variable {X : Cx} {K : PySem.W.Frag} {O I L : List Nat} {ts : List Tg} {t : TGs} {j : Nat} {i e : Expr} {x : Str} {xp sp pos pt : Pos} {kt n : Nat} {fi fe : Env → Option (D × Env)} {es : List Expr}
theorem tgs_nil : TgsOk K O [] gNil := fun fc ρ Hd σ H vs ds ρ1 Q S r h q => by
  cases ds with
  | cons => cases h
  | nil =>
    cases h
    cases r
    exact ⟨rfl, q Hd σ H S (Evl.Ex.refl _)⟩
theorem tgs_nm (hj : O.contains j = false) (h : TgsOk K O ts t) : TgsOk K O (.nm j :: ts) (gCons (gName j) t) := fun fc ρ Hd σ H vs ds ρ1 Q S r hs q => by
  cases ds with
  | nil => cases hs
  | cons d ds =>
    cases r with
    | @cons v vs _ _ r rs =>
      have hj' : j ∉ O := by simpa using hj
      exact ⟨v, vs, rfl, h fc _ Hd _ H vs ds ρ1 Q (S.set hj' r) rs hs q⟩
theorem tgs_sub (hO : j ∈ O) (h : TgsOk K O ts t) : TgsOk K O (.sub j fi :: ts) (gCons (gSub (tVar j) (tE K O fi) rPut) t) := fun fc ρ Hd σ H vs ds ρ1 Q S r hs q => by
  cases ds with
  | nil => cases hs
  | cons d ds =>
    cases r with
    | @cons v vs _ _ r1 rs =>
      unfold setTg at hs
      obtain ⟨d0, k2, hs⟩ := bind_some hs
      obtain ⟨y1, k3, hs⟩ := bind_some hs
      obtain ⟨d1, k4, hs⟩ := bind_some hs
      obtain ⟨d2, k5, hs⟩ := bind_some hs
      refine ⟨v, vs, rfl, ?_⟩
      obtain ⟨v0, s0, _, t0⟩ := S.val j d0 (var_at k2)
      obtain ⟨w, rfl, _, _, _⟩ := t0 hO
      refine ⟨.ref w, s0, fc, ρ, Hd, y1.1, y1.2, S, k3, fun iv Hd2 H2 S2 e2 r2 => ?_⟩
      obtain ⟨v1, s1, _, t1⟩ := S2.val j d1 (var_at k4)
      rw [s0] at s1
      cases s1
      obtain ⟨w1, ew, nw, ow, _⟩ := t1 hO
      cases ew
      obtain ⟨o, a1, a2⟩ := ow_put (Q := fun H6 => t vs σ H6 Q) S2.sub nw ow (r2.tp S2.sub) (r1.mono e2) k5
      refine a2 (h fc _ Hd2 σ _ vs ds ρ1 Q (S2.changed hO (var_at k4) s0 (Evl.Ex.refl _) (ow_upd a1 S2.sub nw) (fun b u hb eb => by rw [upd_ne hb]; exact eb) (fun p u e n => by rw [n] at e; cases e) a1) (rs.mono e2) hs fun Hd' σ' H' S' e' => q Hd' σ' H' S' (e2.trans e'))
theorem s_tgs (hg : PG X (.Tuple es kt pt) (gTup X.K n t)) (ht : TgsOk X.K O ts t) (hn : ts.length = n) (he : PE X e (tE X.K O fe))
    (hs : swapsWithSole [.Tuple es kt pt] e pos.line X.env = pure false := by rfl) (hw : swappedStores [.Tuple es kt pt] e X.env = pure none := by rfl)
    (h1 : (assignEach [.Tuple es kt pt] X.env).map (·.2) = [assign (.Tuple es kt pt) X.env] := by rfl) :
    PS X (.Assign [.Tuple es kt pt] e pos) (tS X.K I L O O (tgsS ts fe)) :=
  PS.imp (ps_asg he hg hs hw h1) fun Dn σ H ⟨fc, ρ, Hd, fl, ρ', S, io, hf, q⟩ => by
    unfold tgsS at hf
    obtain ⟨d, h1, hf⟩ := bind_some hf
    obtain ⟨d, ρ2⟩ := d
    cases d with
    | tuple ds =>
      obtain ⟨ρ1, h2, hf⟩ := bind_some hf
      cases hf
      refine ⟨fc, ρ, Hd, .tuple ds, ρ2, S, h1, fun v Hd' H' S' e' r => ?_⟩
      cases r with
      | @tup a xs _ k1 k2 hz =>
        refine ⟨a, xs, rfl, (tu_mono (S'.sub) k1).sq, by rw [k2.length, setTg_len h2, hn], ?_⟩
        exact ht fc ρ2 Hd' σ H' xs ds ρ' _ S' k2 h2 fun Hd2 σ2 H2 S2 e2 => q Hd2 σ2 H2 S2 (e'.trans e2)
    | _ => cases hf
theorem pg_subP (hu : X.A.units + 64 < cLine) (hn : PE X (.Name x xp) (tVar j)) (hi : PE X i (tE X.K O fi))
    (ha : ∀ v, assign (.Subscript (.Name x xp) i sp) X.env v = (do
      let ov ← holding [v] (eval (.Name x xp) X.env)
      let iv ← holding [v, ov] (eval i X.env)
      standAt sp
      holding [v, ov, iv] (setItem ov iv v)
      release [v, ov, iv] []) := by intro _; rfl) : PG X (.Subscript (.Name x xp) i sp) (gSub (tVar j) (tE X.K O fi) rPut) := pg_sub hn hi (set_put hu) ha
end
end PL

set_option Elab.async false
set_option linter.all false
set_option maxRecDepth 100000
namespace PL
open PySem PySem.Spec PyProof.Rows L2 PySem.W

section
variable {X : Cx} {K : PySem.W.Frag} {O : List Nat} {a b : Expr} {f g : Env → Option D} {p p2 p3 pos : Pos}
/-! ### list * number -/
def rRepL : R2 := fun x y H Q => ∃ l k xs, x = .ref l ∧ y = .int k ∧ Rd H l (.lst xs) ∧ -(2 ^ 63) ≤ k ∧ k < 2 ^ 63 ∧ xs.length * k.toNat ≤ sizeLine ∧
  ∀ p, H p = none → Q (.ref p) (upd H p (.lst (List.replicate k.toNat xs).flatten))
theorem op_repL : OpR X (binaryOp .Mult) rRepL := by
  intro pins s σ H x y v u Q I rx ry h
  obtain ⟨l, k, xs, rfl, rfl, hH, h1, h2, hz, q⟩ := h
  cases rx
  obtain ⟨t, rfl⟩ := ry
  obtain ⟨_, its, n, r, e⟩ := hH.ok I.hok
  have hl := r.length
  have hlen : its.toArray.size * k.toNat ≤ sizeLine := by rw [List.size_toArray, ← hl]; exact hz
  have hcap : ¬ its.toArray.size * k.toNat > (2 ^ 63 - 1) / 8 := by
    have : (sizeLine : Nat) ≤ (2 ^ 63 - 1) / 8 := by decide
    omega
  have hfit : ¬ (!Builtin.List.listFitsIndex k) = true := by
    rw [fitsIndex_both h1 h2]
    exact Bool.false_ne_true
  have hlong : ¬ Builtin.List.listTooLong (its.toArray.size * k.toNat) = true := by
    rw [notLongL hlen]
    exact Bool.false_ne_true
  have hnew : List.foldl (fun x1 x2 => x1 ++ x2) #[] (List.replicate (if its.toArray.isEmpty = true then 0 else k.toNat) its.toArray) = (List.replicate k.toNat its).flatten.toArray := by
    have f0 : ∀ m : Nat, List.foldl (fun x1 x2 => x1 ++ x2) #[] (List.replicate m its.toArray) = (List.replicate m its).flatten.toArray := fun m => by
      have := foldl_rep its m []
      rw [List.nil_append] at this
      exact this
    rw [f0]
    cases its with
    | nil => simp
    | cons a r' => rw [if_neg (by simp)]
  refine wpAny_binaryOp_repeat_ref (T := "list") (U := "int") (by decide) ⟨_, e, rfl⟩ (fun s' => typeIs_int s' k t) noFill_list_mul F.fills_int_mul F.slot_int_rmul repeat_list F.slot_int_index.lookup
    (call_meets F.slot_int_rmul (typeIs_int s k t) F.entry_int_rmul (F.args_int_rmul_2 _ _) (int___rmul___int_list k t l its.toArray n)
      ⟨e, rfl, ⟨_, e, rfl⟩, call_meets F.slot_list_mul ⟨_, e, rfl⟩ F.entry_list_mul (F.args_list_mul_2 _ _) (AutoListH.list___mul___list_int_3 l its.toArray n k t hfit hcap hlong) ⟨e, ?_⟩⟩)
  rw [hnew]
  exact ⟨.ref _, _, I.lnew (t' := s.toks) (r.rep k.toNat) (by rw [PyProof.Rows.lm_len_rep_flat, Nat.mul_comm]; exact hz), rfl, q _ I.fresh⟩
def repLD : D → D → Option D
  | .list ds, .int k => if -1000000 ≤ k ∧ k ≤ 1000000 ∧ ds.length * k.toNat ≤ 1000000 then some (.list (List.replicate k.toNat ds).flatten) else none
  | _, _ => none
theorem Rps.rep {H : Hp} {vs : List V} {ds : List D} (r : Rps K H vs ds) : ∀ n : Nat, Rps K H (List.replicate n vs).flatten (List.replicate n ds).flatten
  | 0 => .nil
  | n + 1 => by
    rw [List.replicate_succ, List.replicate_succ, List.flatten_cons, List.flatten_cons]
    exact r.append (Rps.rep r n)
theorem ok_repL : Op2 K rRepL repLD .fre := fun Hd H x y d e z Q eh tx ty hk q => by
  have ln := line_is
  cases tx with
  | @lst a xs ds h1 h2 _ =>
    cases ty with
    | int k =>
      have hk' : (if -1000000 ≤ k ∧ k ≤ 1000000 ∧ ds.length * k.toNat ≤ 1000000 then some (PyData.list (List.replicate k.toNat ds).flatten) else none) = some z := hk
      split at hk'
      · rename_i hb
        cases hk'
        have l1 := h2.length
        have hz : xs.length * k.toNat ≤ sizeLine := by rw [l1]; omega
        exact ⟨a, k, xs, rfl, rfl, h1, by omega, by omega, hz, fun p hp => q _ Hd _ (Gr.own eh hp) ⟨p, rfl, hp, Evl.fresh_back eh hp, .lst upd_same (h2.rep _) (by rw [PyProof.Rows.lm_len_rep_flat, Nat.mul_comm]; exact hz)⟩⟩
      · cases hk'
    | _ => cases hk
  | _ => cases hk
/-! ### list(range(..)), tuple(range(..)) -/
def rgT1 (w : List D → D) (f : Env → Option D) : Env → Option D := fun ρ => (f ρ).bind fun x => (rngD [x]).bind fun l => some (w l)
def rgT2 (w : List D → D) (f g : Env → Option D) : Env → Option D := fun ρ => (f ρ).bind fun x => (g ρ).bind fun y => (rngD [x, y]).bind fun l => some (w l)
theorem rgl_rps {H : Hp} (lo : Int) : ∀ n : Nat, Rps K H ((List.range n).map fun i => V.int (lo + (i : Nat))) (rngL lo n) := fun n => by
  unfold rngL
  refine Rps.intro (by rw [List.length_map, List.length_map]) fun i v d hv hd => ?_
  rw [List.getElem?_map] at hv hd
  obtain ⟨j, hj, rfl⟩ := Option.map_eq_some_iff.mp hv
  rw [hj] at hd
  cases hd
  exact .int _
theorem rng1_inv {x : D} {l : List D} (h : rngD [x] = some l) : ∃ n : Int, x = .int n ∧ -16777216 ≤ n ∧ n ≤ 16777216 ∧ l = rngL 0 n.toNat := by
  obtain ⟨n, e, h1, h2, h3⟩ := rngD1 h rfl
  cases e
  exact ⟨n, rfl, h1, h2, h3⟩
theorem rng2_inv {x y : D} {l : List D} (h : rngD [x, y] = some l) : ∃ a b : Int, x = .int a ∧ y = .int b ∧ (-16777216 ≤ a ∧ a ≤ 16777216 ∧ -16777216 ≤ b ∧ b ≤ 16777216 ∧ (b - a).toNat ≤ 16777216) ∧ l = rngL a (b - a).toNat := by
  unfold rngD at h
  split at h
  · rename_i e; cases e
  · rename_i e
    cases e
    split at h
    · rename_i hb
      cases h
      exact ⟨_, _, rfl, rfl, hb, rfl⟩
    · cases h
  · cases h
theorem p_listRg1 (hc : X.calm = true) (hg : Gl X "list") (hm : X.mg "list" = none) (hg2 : Gl X "range") (hm2 : X.mg "range" = none) (ha : PE X a (tP X.K .bor O f))
    (na : starEach [a] X.env = (false, eval a X.env) :: starEach [] X.env := by rfl) (nb : starEach [.Call (.Name "range" p2) [a] [] p3] X.env = (false, eval (.Call (.Name "range" p2) [a] [] p3) X.env) :: starEach [] X.env := by rfl) :
    PE X (.Call (.Name "list" p) [.Call (.Name "range" p2) [a] [] p3] [] pos) (tP X.K .fre O (rgT1 .list f)) := PE.imp (pe_listRg hc hg hm (prg_1 hg2 hm2 ha na) nb) fun σ H Q ⟨fc, ρ, Hd, z, S, hf, q⟩ => by
  unfold rgT1 at hf
  obtain ⟨x, h1, hf⟩ := bind_some hf
  obtain ⟨l, h2, hf⟩ := bind_some hf
  cases hf
  obtain ⟨n, rfl, b1, b2, rfl⟩ := rng1_inv h2
  refine ⟨fc, ρ, Hd, _, S, h1, fun v Hd1 H1 g1 r1 => ?_⟩
  cases r1
  refine ⟨n, rfl, ⟨by omega, by omega, by omega, by omega, by omega⟩, fun p hp => q _ Hd1 _ (g1.trans (Gr.own g1.s hp)) ⟨p, rfl, Evl.fresh_back g1.h hp, Evl.fresh_back g1.s hp, .lst upd_same ?_ ?_⟩⟩
  · have := rgl_rps (K := X.K) (H := Hd1) 0 n.toNat
    unfold rgV
    rw [Int.sub_zero]
    exact this
  · have ln := line_is
    rw [rgV_length]
    omega
theorem p_listRg2 (hc : X.calm = true) (hg : Gl X "list") (hm : X.mg "list" = none) (hg2 : Gl X "range") (hm2 : X.mg "range" = none) (ha : PE X a (tP X.K .bor O f)) (hb : PE X b (tP X.K .bor O g))
    (na : starEach [a, b] X.env = (false, eval a X.env) :: starEach [b] X.env := by rfl) (nb : starEach [b] X.env = (false, eval b X.env) :: starEach [] X.env := by rfl) (hp : (backTo p3 (starEach [b] X.env)).any (·.1) = false := by rfl)
    (nc : starEach [.Call (.Name "range" p2) [a, b] [] p3] X.env = (false, eval (.Call (.Name "range" p2) [a, b] [] p3) X.env) :: starEach [] X.env := by rfl) :
    PE X (.Call (.Name "list" p) [.Call (.Name "range" p2) [a, b] [] p3] [] pos) (tP X.K .fre O (rgT2 .list f g)) := PE.imp (pe_listRg hc hg hm (prg_2 hg2 hm2 ha hb na nb hp) nc) fun σ H Q ⟨fc, ρ, Hd, z, S, hf, q⟩ => by
  unfold rgT2 at hf
  obtain ⟨x, h1, hf⟩ := bind_some hf
  obtain ⟨y, h2, hf⟩ := bind_some hf
  obtain ⟨l, h3, hf⟩ := bind_some hf
  cases hf
  obtain ⟨i, j, rfl, rfl, hb, rfl⟩ := rng2_inv h3
  refine ⟨fc, ρ, Hd, _, S, h1, fun v Hd1 H1 g1 r1 => ⟨fc, ρ, Hd1, _, S.grow g1, h2, fun v2 Hd2 H2 g2 r2 => ?_⟩⟩
  cases r1
  cases r2
  have g3 := g1.trans g2
  refine ⟨i, j, rfl, rfl, ⟨by omega, by omega, by omega, by omega, by omega⟩, fun p hp => q _ Hd2 _ (g3.trans (Gr.own g3.s hp)) ⟨p, rfl, Evl.fresh_back g3.h hp, Evl.fresh_back g3.s hp, .lst upd_same (rgl_rps i _) ?_⟩⟩
  have ln := line_is
  rw [rgV_length]
  omega
theorem p_tupRg1 (hc : X.calm = true) (hg : Gl X "tuple") (hm : X.mg "tuple" = none) (hg2 : Gl X "range") (hm2 : X.mg "range" = none) (ha : PE X a (tP X.K .bor O f))
    (na : starEach [a] X.env = (false, eval a X.env) :: starEach [] X.env := by rfl) (nb : starEach [.Call (.Name "range" p2) [a] [] p3] X.env = (false, eval (.Call (.Name "range" p2) [a] [] p3) X.env) :: starEach [] X.env := by rfl) :
    PE X (.Call (.Name "tuple" p) [.Call (.Name "range" p2) [a] [] p3] [] pos) (tP X.K .dat O (rgT1 .tuple f)) := PE.imp (pe_tupRgF hc hg hm (prg_1 hg2 hm2 ha na) nb) fun σ H Q ⟨fc, ρ, Hd, z, S, hf, q⟩ => by
  unfold rgT1 at hf
  obtain ⟨x, h1, hf⟩ := bind_some hf
  obtain ⟨l, h2, hf⟩ := bind_some hf
  cases hf
  obtain ⟨n, rfl, b1, b2, rfl⟩ := rng1_inv h2
  refine ⟨fc, ρ, Hd, _, S, h1, fun v Hd1 H1 g1 r1 => ?_⟩
  cases r1
  refine ⟨n, rfl, ⟨by omega, by omega, by omega, by omega, by omega⟩, fun p o hp ho => q _ _ _ (g1.trans (Gr.dat g1.s hp)) (.tup (TU.new ho) ?_ ?_)⟩
  · have := rgl_rps (K := X.K) (H := Hd1) 0 n.toNat
    unfold rgV
    rw [Int.sub_zero]
    exact Rps.mono (Gr.dat g1.s hp).d this
  · have ln := line_is
    rw [rgV_length]
    omega
theorem p_tupRg2 (hc : X.calm = true) (hg : Gl X "tuple") (hm : X.mg "tuple" = none) (hg2 : Gl X "range") (hm2 : X.mg "range" = none) (ha : PE X a (tP X.K .bor O f)) (hb : PE X b (tP X.K .bor O g))
    (na : starEach [a, b] X.env = (false, eval a X.env) :: starEach [b] X.env := by rfl) (nb : starEach [b] X.env = (false, eval b X.env) :: starEach [] X.env := by rfl) (hp : (backTo p3 (starEach [b] X.env)).any (·.1) = false := by rfl)
    (nc : starEach [.Call (.Name "range" p2) [a, b] [] p3] X.env = (false, eval (.Call (.Name "range" p2) [a, b] [] p3) X.env) :: starEach [] X.env := by rfl) :
    PE X (.Call (.Name "tuple" p) [.Call (.Name "range" p2) [a, b] [] p3] [] pos) (tP X.K .dat O (rgT2 .tuple f g)) := PE.imp (pe_tupRgF hc hg hm (prg_2 hg2 hm2 ha hb na nb hp) nc) fun σ H Q ⟨fc, ρ, Hd, z, S, hf, q⟩ => by
  unfold rgT2 at hf
  obtain ⟨x, h1, hf⟩ := bind_some hf
  obtain ⟨y, h2, hf⟩ := bind_some hf
  obtain ⟨l, h3, hf⟩ := bind_some hf
  cases hf
  obtain ⟨i, j, rfl, rfl, hb, rfl⟩ := rng2_inv h3
  refine ⟨fc, ρ, Hd, _, S, h1, fun v Hd1 H1 g1 r1 => ⟨fc, ρ, Hd1, _, S.grow g1, h2, fun v2 Hd2 H2 g2 r2 => ?_⟩⟩
  cases r1
  cases r2
  have g3 := g1.trans g2
  refine ⟨i, j, rfl, rfl, ⟨by omega, by omega, by omega, by omega, by omega⟩, fun p o hp ho => q _ _ _ (g3.trans (Gr.dat g3.s hp)) (.tup (TU.new ho) (Rps.mono (Gr.dat g3.s hp).d (rgl_rps i _)) ?_)⟩
  have ln := line_is
  rw [rgV_length]
  omega
end
end PL

set_option Elab.async false
set_option linter.all false
set_option maxRecDepth 100000
namespace PL
open PySem PySem.Spec PyProof.Rows L2 PySem.W

/-! ### zip of two texts -/
def ItzS (x y : Str) : It := ⟨fun i _ => i < min x.cps.size y.cps.size, fun i H v H' => ∃ T c d, v = .ref T ∧ H T = none ∧ H' = upd H T (.tup [.str ⟨#[c]⟩, .str ⟨#[d]⟩]) ∧ x.cps[i]? = some c ∧ y.cps[i]? = some d, fun i _ => min x.cps.size y.cps.size ≤ i⟩
theorem turn_zipS {P : Program} {w : World} {K : PySem.W.Frag} {elts : List Expr} {kk : Nat} {tpos : Pos} {x y : Str} {t1 t2 : Tok} {z TI TO i1 i2 : Addr} (S : ZipSep2 z TI TO i1 i2 [i1] [i2]) :
    Turn P w K (.Tuple elts kk tpos) (ItzS x y) [z, TI, TO, i1, i2] z (fun i h => i ≤ min x.cps.size y.cps.size ∧ IsZip h z TI TO .none ∧ IsTupOf2 h TI (.ref i1) (.ref i2) ∧ (∃ a1 a2, IsTupOf2 h TO a1 a2) ∧ h.IsStrIter i1 (strIterType x) x t1 i ∧ h.IsStrIter i2 (strIterType y) y t2 i) where
  mem := by simp
  obj := fun i h st c hc => by
    obtain ⟨_, hz, hTI, ⟨a, b, hTO⟩, ⟨o1, e1, _, d1⟩, ⟨o2, e2, _, d2⟩⟩ := st
    have e' : c = z ∨ c = TI ∨ c = TO ∨ c = i1 ∨ c = i2 := by simpa using hc
    rcases e' with q | q | q | q | q
    · rw [q]; exact ⟨_, hz, fun v q => nomatch q⟩
    · rw [q]; exact ⟨_, hTI, fun v q => nomatch q⟩
    · rw [q]; exact ⟨_, hTO, fun v q => nomatch q⟩
    · rw [q]; exact ⟨o1, e1, fun v q => by rw [d1] at q; cases q⟩
    · rw [q]; exact ⟨o2, e2, fun v q => by rw [d2] at q; cases q⟩
  keep := fun i h h' st k => by
    obtain ⟨hi, hz, hTI, ⟨a, b, hTO⟩, ⟨o1, e1, r1⟩, ⟨o2, e2, r2⟩⟩ := st
    exact ⟨hi, k z (by simp) _ hz, k TI (by simp) _ hTI, ⟨a, b, k TO (by simp) _ hTO⟩, ⟨o1, k i1 (by simp) _ e1, r1⟩, ⟨o2, k i2 (by simp) _ e2, r2⟩⟩
  item := by
    intro X hP hw hK hc i pins s σ H E I hf st hg
    subst hP hw hK
    have hh := I.ok.hd hc
    have G := GoesN.zip2 (elts := elts) (x1 := kk) (pos := tpos) (A := X.A) S (Draws.text (prog := X.prog) (w := X.w) (A := X.A.in1) hh i1 x t1) (Draws.text (prog := X.prog) (w := X.w) (A := X.A.in1) hh i2 y t2)
    refine G.goes i s _ E hg st.2 fun v h' tk hY st' hk htk => ?_
    obtain ⟨T, u, u2, rfl, hT, ⟨c, uc, hc1, rfl⟩, ⟨d, ud, hd1, rfl⟩, hTup⟩ := hY
    have new : ObjOk X.prog X.w (upd H T (.tup [.str ⟨#[c]⟩, .str ⟨#[d]⟩])) h' T (.tup [.str ⟨#[c]⟩, .str ⟨#[d]⟩]) :=
      ⟨by show 2 ≤ sizeLine; decide, [_, _], .cons ⟨uc, rfl⟩ (.cons ⟨ud, rfl⟩ .nil), hTup⟩
    have I1 : Inv X pins σ (upd H T (.tup [.str ⟨#[c]⟩, .str ⟨#[d]⟩])) { s with heap := h', toks := tk } :=
      I.turnedNew (t' := tk) (ch := [z, TO, i1, i2]) hk (fun b hb => hf b (by
        have e' : b = z ∨ b = TO ∨ b = i1 ∨ b = i2 := by simpa using hb
        rcases e' with q | q | q | q <;> simp [q])) hT new
    refine ⟨.ref T, _, I1, rfl, ⟨T, c, d, rfl, I.hok.fresh hT, rfl, hc1, hd1⟩, ⟨?_, st'⟩, fun b hb => ?_⟩
    · have hg : i < min x.cps.size y.cps.size := hg
      omega
    · have hlt : b < s.heap.objs.size := by
        obtain ⟨_, hz, hTI, ⟨a, b', hTO⟩, ⟨o1, e1, _⟩, ⟨o2, e2, _⟩⟩ := st
        have e' : b = z ∨ b = TI ∨ b = TO ∨ b = i1 ∨ b = i2 := by simpa using hb
        rcases e' with q | q | q | q | q
        · rw [q]; exact Heap.lt_size hz
        · rw [q]; exact Heap.lt_size hTI
        · rw [q]; exact Heap.lt_size hTO
        · rw [q]; exact Heap.lt_size e1
        · rw [q]; exact Heap.lt_size e2
      rw [upd_ne (Nat.ne_of_lt (Nat.lt_of_lt_of_le hlt hT))]
      exact (hf b hb).1
  done := by
    intro X hP hw hK hc i pins s σ H E I hf st hg
    subst hP hw hK
    have hh := I.ok.hd hc
    have G := GoesN.zip2 (elts := elts) (x1 := kk) (pos := tpos) (A := X.A) S (Draws.text (prog := X.prog) (w := X.w) (A := X.A.in1) hh i1 x t1) (Draws.text (prog := X.prog) (w := X.w) (A := X.A.in1) hh i2 y t2)
    have hi : i = min x.cps.size y.cps.size := by
      have h1 := st.1
      have hg : min x.cps.size y.cps.size ≤ i := hg
      omega
    have st2 := st.2
    rw [hi] at st2
    refine G.stops s _ E st2 fun h' tk hk htk => ?_
    exact I.turnedL (t' := tk) (ch := [z, TO, i1, i2]) hk fun b hb => hf b (by
      have e' : b = z ∨ b = TO ∨ b = i1 ∨ b = i2 := by simpa using hb
      rcases e' with q | q | q | q <;> simp [q])
  self := fun A i s Q E st h => wpAny_pyIter_zip st.2.1 h
def iZipS (ta : TA) : TI := fun σ H R => ta σ H fun vs H1 => ∃ x y, vs = [.str x, .str y] ∧ R (ItzS x y) H1
theorem pi_zipS {X : Cx} {e e2 : Expr} {ta : TA} {p pos tpos : Pos} {elts : List Expr} {kk : Nat} (hg : Gl X "zip") (hm : X.mg "zip" = none) (ha : PA X [e, e2] ta)
    (hs : starEach [e, e2] X.env = (false, eval e X.env) :: starEach [e2] X.env := by rfl) (hpl : (backTo pos (starEach [e2] X.env)).any (·.1) = false := by rfl) :
    PI X (.Tuple elts kk tpos) (.Call (.Name "zip" p) [e, e2] [] pos) (iZipS ta) := by
  refine ⟨fun pins s σ H R I h => ?_⟩
  refine Call_ (ld_blt I hg hm PyProof.Rows.boot_zip (PyProof.Rows.callWith_type1 (thn (ha.run pos pins s σ H _ I h) fun us s1 ⟨vs, H1, I1, r1, q1⟩ => ?_) hs hpl))
  obtain ⟨x, y, ex, q⟩ := q1
  subst ex
  cases r1 with
  | cons r rr =>
    cases rr with
    | cons r' rr =>
      cases rr
      obtain ⟨t1, rfl⟩ := r
      obtain ⟨t2, rfl⟩ := r'
      have fresh5 : ∀ c, c ∈ [s1.heap.objs.size + 4, s1.heap.objs.size + 2, s1.heap.objs.size + 3, s1.heap.objs.size, s1.heap.objs.size + 1] → FpOk X pins H1 c := fun c hcm => by
        have e' : c = s1.heap.objs.size + 4 ∨ c = s1.heap.objs.size + 2 ∨ c = s1.heap.objs.size + 3 ∨ c = s1.heap.objs.size ∨ c = s1.heap.objs.size + 1 := by simpa using hcm
        have hle : s1.heap.objs.size ≤ c := by
          rcases e' with z | z | z | z | z
          · rw [z]; exact Nat.le_add_right _ _
          · rw [z]; exact Nat.le_add_right _ _
          · rw [z]; exact Nat.le_add_right _ _
          · rw [z]; exact Nat.le_refl _
          · rw [z]; exact Nat.le_add_right _ _
        exact I1.fpOk hle (I1.hok.fresh hle)
      refine zip_begins2 (begins_text x t1) (begins_text y t2) trivial trivial fun h' hz hTI hTO h1 h2 hsz hk => wpAny_pyIter_zip hz ?_
      have I2 : Inv X pins σ H1 { s1 with heap := h' } := I1.kept (t' := s1.toks) hk
      exact ⟨s1.heap.objs.size + 4, [s1.heap.objs.size + 4, s1.heap.objs.size + 2, s1.heap.objs.size + 3, s1.heap.objs.size, s1.heap.objs.size + 1], _, _, H1, rfl, I2, turn_zipS (t1 := t1) (t2 := t2) (zip_sep2 (fun b hb => nomatch hb) (fun b hb => nomatch hb)), ⟨Nat.zero_le _, hz, hTI, ⟨_, _, hTO⟩, ⟨_, h1, rfl, rfl⟩, ⟨_, h2, rfl, rfl⟩⟩, fresh5, q⟩
/-! zip of texts as data -/
def zipT : List D → Option (List D)
  | [.str x, .str y] => some ((x.cps.toList.zip y.cps.toList).map fun p => kt [.str ⟨#[p.1]⟩, .str ⟨#[p.2]⟩])
  | _ => none
def zipTI (as : Env → Option (List D)) : Env → Option (List D) := fun ρ => (as ρ).bind zipT
section
variable {X : Cx} {O : List Nat} {e e2 : Expr} {as : Env → Option (List D)} {p pos : Pos}
theorem i_zipT {elts : List Expr} {kk : Nat} {tpos : Pos} (hg : Gl X "zip") (hm : X.mg "zip" = none) (ha : PA X [e, e2] (tPs X.K .dat O as)) (hl : LenA as 2)
    (hs : starEach [e, e2] X.env = (false, eval e X.env) :: starEach [e2] X.env := by rfl) (hpl : (backTo pos (starEach [e2] X.env)).any (·.1) = false := by rfl) :
    PI X (.Tuple elts kk tpos) (.Call (.Name "zip" p) [e, e2] [] pos) (tI X.K true O (zipTI as)) := PI.mk' fun pins s σ H R I ⟨fc, ρ, Hd, l, S, hf, q⟩ => by
  unfold zipTI at hf
  obtain ⟨ds, h1, hf⟩ := bind_some hf
  unfold zipT at hf
  split at hf
  · rename_i x y
    cases hf
    refine (pi_zipS hg hm ha hs hpl).run pins s σ H R I ⟨fc, ρ, Hd, _, S, h1, fun vs Hd' H' g r => ?_⟩
    cases r with
    | cons r1 r =>
      cases r with
      | cons r2 r =>
        cases r
        cases r1 with
        | str _ hz1 =>
          cases r2 with
          | str _ hz2 =>
            refine ⟨x, y, rfl, q _ Hd' H' g (fun i Hd1 H1 a s1 ex => ⟨fun d hd => ?_, fun hn => ?_⟩) ?_⟩
            · rw [List.getElem?_map] at hd
              obtain ⟨⟨c, d'⟩, hp, rfl⟩ := Option.map_eq_some_iff.mp hd
              rw [List.getElem?_zip_eq_some] at hp
              obtain ⟨hc, hd'⟩ := hp
              rw [Array.getElem?_toList] at hc hd'
              have l1 := (Array.getElem?_eq_some_iff.mp hc).1
              have l2 := (Array.getElem?_eq_some_iff.mp hd').1
              refine ⟨show i < min x.cps.size y.cps.size by omega, fun v H2 ⟨T, c1, d1, ev, hT, eH, e1, e2⟩ => ?_⟩
              rw [hc] at e1
              rw [hd'] at e2
              cases e1
              cases e2
              subst ev eH
              have gr := Gr.dat (o := .tup [.str ⟨#[c]⟩, .str ⟨#[d']⟩]) s1 hT
              have one : ∀ c : Nat, (⟨#[c]⟩ : Str).length ≤ sizeLine := fun c => by
                have ln := line_is
                show 1 ≤ sizeLine
                omega
              exact ⟨_, gr, .kt upd_same (.cons (.str _ (one c)) (.cons (.str _ (one d')) .nil)) (by show 2 ≤ sizeLine; have ln := line_is; omega)⟩
            · rw [List.length_map, List.length_zip, Array.length_toList, Array.length_toList] at hn
              show min x.cps.size y.cps.size ≤ i
              omega
            · rw [List.length_map, List.length_zip, Array.length_toList]
              have hz1 : x.cps.size ≤ sizeLine := hz1
              omega
  · cases hf
end
end PL

set_option Elab.async false
set_option linter.all false
set_option maxRecDepth 100000
namespace PL
open PySem PySem.Spec PyProof.Rows L2 PySem.W

/-! ### the combinators at an environment -/
section
variable {α : Type} {i j : Nat} {d x y z : D} {g : D → Option D} {g2 : D → D → Option D} {k : List D → Option D} {kw : D → List D → Option (D × D)} {f f2 f3 : Env → Option D} {as : Env → Option (List D)} {fe ge : Env → Option (D × Env)} {ase : Env → Option (List D × Env)} {t t2 : Env → Option Bool} {te te2 : Env → Option (Bool × Env)} {ρ ρ1 ρ2 : Env} {h : Env → Option α} {s s2 : Env → Option (Fl × Env)} {bnd : D → Env → Option Env} {js vs : List Nat} {N : Nat} {ds : List D} {v : D} {r : Option (Fl × Env)} {lo hi : Env → Option (Option Int)}
theorem e_var : var i ρ = (ρ[i]?).join := rfl
theorem e_cst : cst d ρ = some d := rfl
theorem e_op1 : op1 g f ρ = (f ρ).bind g := rfl
theorem e_op2 : op2 g2 f f2 ρ = (f ρ).bind fun x => (f2 ρ).bind fun y => g2 x y := rfl
theorem e_op3 {g3 : D → D → D → Option D} : op3 g3 f f2 f3 ρ = (f ρ).bind fun x => (f2 ρ).bind fun y => (f3 ρ).bind fun z => g3 x y z := rfl
theorem e_fn : fn k as ρ = (as ρ).bind k := rfl
theorem e_anil : anil ρ = some [] := rfl
theorem e_acons : acons f as ρ = (f ρ).bind fun x => (as ρ).bind fun xs => some (x :: xs) := rfl
theorem e_up : up h ρ = (h ρ).bind fun d => some (d, ρ) := rfl
theorem e_op1E : op1E g fe ρ = (fe ρ).bind fun x => (g x.1).bind fun z => some (z, x.2) := rfl
theorem e_op2E : op2E g2 fe ge ρ = (fe ρ).bind fun x => (ge x.2).bind fun y => (g2 x.1 y.1).bind fun z => some (z, y.2) := rfl
theorem e_fnE : fnE k ase ρ = (ase ρ).bind fun x => (k x.1).bind fun z => some (z, x.2) := rfl
theorem e_anilE : anilE ρ = some ([], ρ) := rfl
theorem e_aconsE : aconsE fe ase ρ = (fe ρ).bind fun x => (ase x.2).bind fun xs => some (x.1 :: xs.1, xs.2) := rfl
theorem e_fnW : fnW i kw ase ρ = (var i ρ).bind fun _ => (ase ρ).bind fun xs => (var i xs.2).bind fun d => (kw d xs.1).bind fun z => some (z.1, xs.2.set i (some z.2)) := rfl
theorem e_tup : tup as ρ = (as ρ).bind fun ds => some (.tuple ds) := rfl
theorem e_lst : lst as ρ = (as ρ).bind fun ds => some (.list ds) := rfl
theorem e_tupE : tupE ase ρ = (ase ρ).bind fun ds => some (.tuple ds.1, ds.2) := rfl
theorem e_lstE : lstE ase ρ = (ase ρ).bind fun ds => some (.list ds.1, ds.2) := rfl
theorem e_dnil : dnil ρ = some (.dict []) := rfl
theorem e_noB : noB ρ = some none := rfl
theorem e_toB : toB f ρ = (f ρ).bind fun d => (asI d).map some := rfl
theorem e_slc : slc f lo hi ρ = (f ρ).bind fun d => (lo ρ).bind fun l => (hi ρ).bind fun u => slcD d l u := rfl
theorem e_tru : tru f ρ = (f ρ).bind asB := rfl
theorem e_truE : truE fe ρ = (fe ρ).bind fun x => (asB x.1).bind fun b => some (b, x.2) := rfl
theorem e_andT : andT t t2 ρ = (t ρ).bind fun b => if b then t2 ρ else some false := rfl
theorem e_orT : orT t t2 ρ = (t ρ).bind fun b => if b then some true else t2 ρ := rfl
theorem e_notT : notT t ρ = (t ρ).bind fun b => some (!b) := rfl
theorem e_andTE : andTE te te2 ρ = (te ρ).bind fun x => if x.1 then te2 x.2 else some (false, x.2) := rfl
theorem e_orTE : orTE te te2 ρ = (te ρ).bind fun x => if x.1 then some (true, x.2) else te2 x.2 := rfl
theorem e_notTE : notTE te ρ = (te ρ).bind fun x => some (!x.1, x.2) := rfl
theorem e_andV : andV f f2 ρ = (f ρ).bind fun d => (asB d).bind fun b => if b then f2 ρ else some (.bool false) := rfl
theorem e_orV : orV f f2 ρ = (f ρ).bind fun d => (asB d).bind fun b => if b then some (.bool true) else f2 ρ := rfl
theorem e_ifE : ifE t f f2 ρ = (t ρ).bind fun b => if b then f ρ else f2 ρ := rfl
theorem e_ifEE : ifEE te fe ge ρ = (te ρ).bind fun x => if x.1 then fe x.2 else ge x.2 := rfl
theorem e_anyI : anyI f ρ = (f ρ).bind itemsA := rfl
theorem e_rng : rng as ρ = (as ρ).bind rngD := rfl
theorem e_rngE : rngE ase ρ = (ase ρ).bind fun x => (rngD x.1).bind fun l => some (l, x.2) := rfl
theorem e_zipTI : zipTI as ρ = (as ρ).bind zipT := rfl
theorem e_zipI : zipI as ρ = (as ρ).bind zipA := rfl
theorem e_dis1 : dis1 x f ρ = (f ρ).bind fun z => some (.dict (mergeD [] [(x, z)])) := rfl
theorem e_dis2 : dis2 x y f f2 ρ = (f ρ).bind fun z => (f2 ρ).bind fun w => some (.dict (mergeD [] [(x, z), (y, w)])) := rfl
theorem e_chn {g1 : D → D → Option D} : chn g1 g2 f f2 f3 ρ = (f ρ).bind fun x => (f2 ρ).bind fun y => (g1 x y).bind fun z => (asB z).bind fun k => if k then (f3 ρ).bind fun w => g2 y w else some (.bool false) := rfl
theorem e_nilS : nilS ρ = some (.nx, ρ) := rfl
theorem e_asgS : asgS j f ρ = (f ρ).bind fun d => some (.nx, ρ.set j (some d)) := rfl
theorem e_asgE : asgE j fe ρ = (fe ρ).bind fun x => some (.nx, x.2.set j (some x.1)) := rfl
theorem e_tgtS : tgtS bnd fe ρ = (fe ρ).bind fun x => (bnd x.1 x.2).bind fun ρ1 => some (.nx, ρ1) := rfl
theorem e_exprS : exprS fe ρ = (fe ρ).bind fun x => some (.nx, x.2) := rfl
theorem e_retS : retS f ρ = (f ρ).bind fun d => some (.ret d, ρ) := rfl
theorem e_retE : retE fe ρ = (fe ρ).bind fun x => some (.ret x.1, x.2) := rfl
theorem e_retN : retN ρ = some (.ret .none, ρ) := rfl
theorem e_brkS : brkS ρ = some (.brk, ρ) := rfl
theorem e_contS : contS ρ = some (.cont, ρ) := rfl
theorem e_ifS : ifS t s s2 ρ = (t ρ).bind fun b => if b then s ρ else s2 ρ := rfl
theorem e_ifSE : ifSE te s s2 ρ = (te ρ).bind fun b => if b.1 then s b.2 else s2 b.2 := rfl
theorem e_parS : parS js ase ρ = (ase ρ).bind fun x => some (.nx, setAll js x.1 x.2) := rfl
theorem e_putS : putS j ge fe ρ = (fe ρ).bind fun x => (var j x.2).bind fun _ => (ge x.2).bind fun y => (var j y.2).bind fun d => (putD d y.1 x.1).bind fun d' => some (.nx, y.2.set j (some d')) := rfl
theorem e_augS {op : D → D → Option D} : augS j op ge fe ρ = (var j ρ).bind fun _ => (ge ρ).bind fun y => (var j y.2).bind fun d => (dIx d y.1).bind fun old => (fe y.2).bind fun z => (var j z.2).bind fun d1 => (op old z.1).bind fun new => (putD d1 y.1 new).bind fun d' => some (.nx, z.2.set j (some d')) := rfl
theorem e_augN {op : D → D → Option D} : augN j op fe ρ = (var j ρ).bind fun old => (fe ρ).bind fun z => (op old z.1).bind fun new => some (.nx, z.2.set j (some new)) := rfl
theorem e_mutL : mutL i kw ase ρ = (var i ρ).bind fun d0 => (mutL.asL d0).bind fun _ => (ase ρ).bind fun ds => (var i ds.2).bind fun d => (kw d ds.1).bind fun z => some (z.1, ds.2.set i (some z.2)) := rfl
theorem e_yesT : yesT ρ = some true := rfl
theorem e_yesTE : yesTE ρ = some (true, ρ) := rfl
theorem e_bN : bN j d ρ = some (ρ.set j (some d)) := rfl
theorem e_bT : bT js (.tuple ds) ρ = if ds.length = js.length then some (setAll js ds ρ) else none := rfl
theorem e_sa : setAll (j :: js) (d :: ds) ρ = setAll js ds (ρ.set j (some d)) := rfl
theorem e_sa0 : setAll [] ds ρ = ρ := by cases ds <;> rfl
theorem e_forS {it : Env → Option (List D)} : forS it bnd s ρ = (it ρ).bind fun ds => forF bnd s ds ρ := rfl
theorem e_forE {it : Env → Option (List D × Env)} : forE it bnd s ρ = (it ρ).bind fun x => forF bnd s x.1 x.2 := rfl
theorem e_lc {it : Env → Option (List D)} : lc it vs bnd t f ρ = (it ρ).bind fun ds => (lcF bnd t f (wipeE ρ vs) ds).bind fun ys => some (.list ys) := rfl
theorem e_lcE {it : Env → Option (List D × Env)} : lcE it vs bnd te fe ρ = (it ρ).bind fun x => (lcFE bnd te fe vs x.1 (wipeE x.2 vs)).bind fun z => some (.list z.1, unwipe vs 0 x.2 z.2) := rfl
theorem e_tgs {ts : List Tg} : tgsS ts fe ρ = (fe ρ).bind fun x => match x.1 with
  | .tuple ds => (setTg ts ds x.2).bind fun ρ1 => some (.nx, ρ1)
  | _ => none := rfl
theorem e_tg0 : setTg [] [] ρ = some ρ := rfl
theorem e_tgN {ts : List Tg} : setTg (.nm j :: ts) (d :: ds) ρ = setTg ts ds (ρ.set j (some d)) := rfl
theorem e_tgS {ts : List Tg} : setTg (.sub j fe :: ts) (d :: ds) ρ = (var j ρ).bind fun _ => (fe ρ).bind fun y => (var j y.2).bind fun c => (putD c y.1 d).bind fun c' => setTg ts ds (y.2.set j (some c')) := rfl
/-! statements in a row -/
theorem nx (h : s ρ = some (.nx, ρ1)) (k : s2 ρ1 = r) : seqS s s2 ρ = r := by
  unfold seqS
  rw [h]
  exact k
theorem rt {ρ' : Env} (h : s ρ = some (.ret v, ρ')) : seqS s s2 ρ = some (.ret v, ρ') := by
  unfold seqS
  rw [h]
  rfl
theorem bd {ρ' : Env} (h : s (begE N ds) = some (.ret v, ρ')) : bodyD N s ds = some v := by
  unfold bodyD
  rw [h]
  rfl
theorem bdw {ρ' : Env} {w w' : D} (h : s (begE N (w :: ds)) = some (.ret v, ρ')) (hw : var 0 ρ' = some w') : bodyW N s w ds = some (v, w') := by
  unfold bodyW
  rw [h]
  show (var 0 ρ').bind _ = _
  rw [hw]
  rfl
theorem if1 (h : t ρ = some true) (k : s ρ = r) : ifS t s s2 ρ = r := by
  rw [e_ifS, h]; exact k
theorem if0 (h : t ρ = some false) (k : s2 ρ = r) : ifS t s s2 ρ = r := by
  rw [e_ifS, h]; exact k
theorem if1_or {b : Bool} (h : t ρ = some b) (k1 : b = true → s ρ = r) (k0 : b = false → s2 ρ = r) : ifS t s s2 ρ = r := by
  cases b with
  | true => exact if1 h (k1 rfl)
  | false => exact if0 h (k0 rfl)
theorem ifb {b : Bool} (h : t ρ = some b) : ifS t s s2 ρ = if b then s ρ else s2 ρ := by
  rw [e_ifS, h]; rfl
end
/-! ### loops -/
section
variable {α σ : Type} {enc : α → D} {bnd : D → Env → Option Env} {body : Env → Option (Fl × Env)}
/-- every turn goes on: a state carried -/
theorem for_fold (I : σ → Env → Prop) (step : σ → α → σ) : ∀ (xs : List α) (s : σ) (ρ : Env), (∀ a ∈ xs, ∀ s ρ, I s ρ → ∃ ρ1 ρ2, bnd (enc a) ρ = some ρ1 ∧ body ρ1 = some (.nx, ρ2) ∧ I (step s a) ρ2) → I s ρ →
    ∃ ρ', forF bnd body (xs.map enc) ρ = some (.nx, ρ') ∧ I (xs.foldl step s) ρ'
  | [], s, ρ, _, hi => ⟨ρ, rfl, hi⟩
  | a :: xs, s, ρ, h, hi => by
    obtain ⟨ρ1, ρ2, h1, h2, h3⟩ := h a List.mem_cons_self s ρ hi
    obtain ⟨ρ', h4, h5⟩ := for_fold I step xs (step s a) ρ2 (fun b hb => h b (.tail _ hb)) h3
    refine ⟨ρ', ?_, h5⟩
    rw [List.map_cons, forF, h1, Option.bind_some, h2, Option.bind_some]
    exact h4
/-- an invariant over data -/
theorem for_inv (I : Env → Prop) : ∀ (ds : List D) (ρ : Env), (∀ d ∈ ds, ∀ ρ, I ρ → ∃ ρ1 ρ2, bnd d ρ = some ρ1 ∧ body ρ1 = some (.nx, ρ2) ∧ I ρ2) → I ρ →
    ∃ ρ', forF bnd body ds ρ = some (.nx, ρ') ∧ I ρ'
  | [], ρ, _, hi => ⟨ρ, rfl, hi⟩
  | d :: ds, ρ, h, hi => by
    obtain ⟨ρ1, ρ2, h1, h2, h3⟩ := h d List.mem_cons_self ρ hi
    obtain ⟨ρ', h4, h5⟩ := for_inv I ds ρ2 (fun b hb => h b (.tail _ hb)) h3
    refine ⟨ρ', ?_, h5⟩
    rw [forF, h1, Option.bind_some, h2, Option.bind_some]
    exact h4
/-- a comprehension -/
theorem lc_map {tt : Env → Option Bool} {te : Env → Option D} {ρ : Env} (p : α → Bool) (g : α → D) : ∀ xs : List α, (∀ a ∈ xs, ∃ ρ1, bnd (enc a) ρ = some ρ1 ∧ tt ρ1 = some (p a) ∧ (p a = true → te ρ1 = some (g a))) →
    lcF bnd tt te ρ (xs.map enc) = some ((xs.filter p).map g)
  | [], _ => rfl
  | a :: xs, h => by
    obtain ⟨ρ1, h1, h2, h3⟩ := h a List.mem_cons_self
    have ih := lc_map p g xs fun b hb => h b (.tail _ hb)
    rw [List.map_cons, lcF, h1, Option.bind_some, h2, Option.bind_some]
    cases e : p a with
    | true =>
      rw [List.filter_cons_of_pos e, List.map_cons, ih, h3 e]
      rfl
    | false =>
      rw [List.filter_cons_of_neg (by rw [e]; exact Bool.false_ne_true), ih]
      rfl
theorem lc_all {tt : Env → Option Bool} {te : Env → Option D} {ρ : Env} (g : α → D) (xs : List α) (h : ∀ a ∈ xs, ∃ ρ1, bnd (enc a) ρ = some ρ1 ∧ tt ρ1 = some true ∧ te ρ1 = some (g a)) : lcF bnd tt te ρ (xs.map enc) = some (xs.map g) := by
  have q := lc_map (enc := enc) (fun _ => true) g xs fun a ha => by
    obtain ⟨ρ1, h1, h2, h3⟩ := h a ha
    exact ⟨ρ1, h1, h2, fun _ => h3⟩
  rwa [List.filter_eq_self.mpr fun _ _ => rfl] at q
/-- a comprehension whose items change the state: an invariant, and what each item is -/
theorem lcE_inv {vs : List Nat} {tt : Env → Option (Bool × Env)} {te : Env → Option (D × Env)} (I : Env → Prop) (G : D → Prop) : ∀ (ds : List D) (ρ : Env),
    (∀ d ∈ ds, ∀ ρ, I ρ → ∃ ρ1 b ρ2, bnd d ρ = some ρ1 ∧ tt ρ1 = some (b, ρ2) ∧ (b = false → I (wipeE ρ2 vs)) ∧ (b = true → ∃ y ρ3, te ρ2 = some (y, ρ3) ∧ G y ∧ I (wipeE ρ3 vs))) → I ρ →
    ∃ ys ρ', lcFE bnd tt te vs ds ρ = some (ys, ρ') ∧ (∀ y ∈ ys, G y) ∧ ys.length ≤ ds.length ∧ I ρ'
  | [], ρ, _, hi => ⟨[], ρ, rfl, (fun y hy => nomatch hy), Nat.le_refl _, hi⟩
  | d :: ds, ρ, h, hi => by
    obtain ⟨ρ1, b, ρ2, h1, h2, h3, h4⟩ := h d List.mem_cons_self ρ hi
    have hr : ∀ b ∈ ds, _ := fun b hb => h b (.tail _ hb)
    cases b with
    | false =>
      obtain ⟨ys, ρ', e, g, l, i⟩ := lcE_inv I G ds _ hr (h3 rfl)
      refine ⟨ys, ρ', ?_, g, Nat.le_succ_of_le l, i⟩
      rw [lcFE, h1, Option.bind_some, h2, Option.bind_some]
      exact e
    | true =>
      obtain ⟨y, ρ3, e3, gy, i3⟩ := h4 rfl
      obtain ⟨ys, ρ', e, g, l, i⟩ := lcE_inv I G ds _ hr i3
      refine ⟨y :: ys, ρ', ?_, fun z hz => ?_, Nat.succ_le_succ l, i⟩
      · rw [lcFE, h1, Option.bind_some, h2, Option.bind_some]
        show (te ρ2).bind _ = _
        rw [e3, Option.bind_some]
        show (lcFE bnd tt te vs ds (wipeE ρ3 vs)).bind _ = _
        rw [e]
        rfl
      · rcases List.mem_cons.mp hz with rfl | hz
        · exact gy
        · exact g z hz
end
/-! ### what a run of statements does -/
def Ok (s : Env → Option (Fl × Env)) (ρ : Env) (P : Fl → Env → Prop) : Prop := ∃ fl ρ', s ρ = some (fl, ρ') ∧ P fl ρ'
section
variable {α σ : Type} {enc : α → D} {bnd : D → Env → Option Env} {body s s2 : Env → Option (Fl × Env)} {ρ ρ1 : Env} {P R : Fl → Env → Prop} {t : Env → Option Bool} {N : Nat} {ds : List D}
theorem Ok.nx (h : s ρ = some (.nx, ρ1)) (k : Ok s2 ρ1 P) : Ok (seqS s s2) ρ P := by
  obtain ⟨fl, ρ', e, p⟩ := k
  exact ⟨fl, ρ', PL.nx h e, p⟩
theorem Ok.rt {v : D} (h : s ρ = some (.ret v, ρ1)) (p : P (.ret v) ρ1) : Ok (seqS s s2) ρ P := ⟨_, _, PL.rt h, p⟩
theorem Ok.one {fl : Fl} (h : s ρ = some (fl, ρ1)) (p : P fl ρ1) : Ok s ρ P := ⟨_, _, h, p⟩
theorem Ok.mono (h : Ok s ρ R) (w : ∀ fl ρ', R fl ρ' → P fl ρ') : Ok s ρ P := by
  obtain ⟨fl, ρ', e, p⟩ := h
  exact ⟨fl, ρ', e, w _ _ p⟩
/-- statements that go on -/
theorem Ok.seq {I : Env → Prop} (h : Ok s ρ fun fl ρ1 => fl = .nx ∧ I ρ1) (k : ∀ ρ1, I ρ1 → Ok s2 ρ1 P) : Ok (seqS s s2) ρ P := by
  obtain ⟨fl, ρ1, e, rfl, i⟩ := h
  exact Ok.nx e (k ρ1 i)
theorem Ok.if {b : Bool} (h : t ρ = some b) (h1 : b = true → Ok s ρ P) (h0 : b = false → Ok s2 ρ P) : Ok (ifS t s s2) ρ P := by
  cases b with
  | true => obtain ⟨fl, ρ', e, p⟩ := h1 rfl; exact ⟨fl, ρ', if1 h e, p⟩
  | false => obtain ⟨fl, ρ', e, p⟩ := h0 rfl; exact ⟨fl, ρ', if0 h e, p⟩
theorem Ok.nil (p : P .nx ρ) : Ok nilS ρ P := ⟨_, _, rfl, p⟩
/-- a loop whose every turn goes on -/
theorem Ok.forF (I : σ → Env → Prop) (step : σ → α → σ) (xs : List α) (s : σ) (h : ∀ a ∈ xs, ∀ s ρ, I s ρ → ∃ ρ1, bnd (enc a) ρ = some ρ1 ∧ Ok body ρ1 fun fl ρ2 => fl = .nx ∧ I (step s a) ρ2) (hi : I s ρ) :
    Ok (PL.forF bnd body (xs.map enc)) ρ fun fl ρ' => fl = .nx ∧ I (xs.foldl step s) ρ' := by
  obtain ⟨ρ', e, i⟩ := for_fold (enc := enc) (bnd := bnd) (body := body) I step xs s ρ (fun a ha s ρ hs => by
    obtain ⟨ρ1, e1, fl, ρ2, e2, rfl, i2⟩ := h a ha s ρ hs
    exact ⟨ρ1, ρ2, e1, e2, i2⟩) hi
  exact ⟨_, ρ', e, rfl, i⟩
theorem Ok.forS {it : Env → Option (List D)} (I : σ → Env → Prop) (step : σ → α → σ) (xs : List α) (s : σ) (hit : it ρ = some (xs.map enc))
    (h : ∀ a ∈ xs, ∀ s ρ, I s ρ → ∃ ρ1, bnd (enc a) ρ = some ρ1 ∧ Ok body ρ1 fun fl ρ2 => fl = .nx ∧ I (step s a) ρ2) (hi : I s ρ) :
    Ok (PL.forS it bnd body) ρ fun fl ρ' => fl = .nx ∧ I (xs.foldl step s) ρ' := by
  obtain ⟨fl, ρ', e, p⟩ := Ok.forF (body := body) I step xs s h hi
  exact ⟨fl, ρ', by rw [e_forS, hit]; exact e, p⟩
theorem Ok.forE {it : Env → Option (List D × Env)} (I : σ → Env → Prop) (step : σ → α → σ) (xs : List α) (s : σ) (hit : it ρ = some (xs.map enc, ρ1))
    (h : ∀ a ∈ xs, ∀ s ρ, I s ρ → ∃ ρ1, bnd (enc a) ρ = some ρ1 ∧ Ok body ρ1 fun fl ρ2 => fl = .nx ∧ I (step s a) ρ2) (hi : I s ρ1) :
    Ok (PL.forE it bnd body) ρ fun fl ρ' => fl = .nx ∧ I (xs.foldl step s) ρ' := by
  obtain ⟨fl, ρ', e, p⟩ := Ok.forF (body := body) I step xs s h hi
  exact ⟨fl, ρ', by rw [e_forE, hit]; exact e, p⟩
/-- the same, told by places -/
theorem Ok.forFi (I : Nat → Env → Prop) : ∀ (xs : List α) (n : Nat) (ρ : Env), (∀ i a, xs[i]? = some a → ∀ ρ, I (n + i) ρ → ∃ ρ1, bnd (enc a) ρ = some ρ1 ∧ Ok body ρ1 fun fl ρ2 => fl = .nx ∧ I (n + i + 1) ρ2) → I n ρ →
    Ok (PL.forF bnd body (xs.map enc)) ρ fun fl ρ' => fl = .nx ∧ I (n + xs.length) ρ'
  | [], n, ρ, _, hi => ⟨_, ρ, rfl, rfl, hi⟩
  | a :: xs, n, ρ, h, hi => by
    obtain ⟨ρ1, e1, fl, ρ2, e2, rfl, i2⟩ := h 0 a rfl ρ hi
    obtain ⟨fl, ρ', e, rfl, i'⟩ := Ok.forFi I xs (n + 1) ρ2 (fun i b hb ρ hr => by
      have e : n + 1 + i = n + (i + 1) := by omega
      rw [e] at hr ⊢
      exact h (i + 1) b (by rw [List.getElem?_cons_succ]; exact hb) ρ hr) i2
    have e3 : n + (a :: xs).length = n + 1 + xs.length := by rw [List.length_cons]; omega
    rw [e3]
    refine ⟨.nx, ρ', ?_, rfl, i'⟩
    rw [List.map_cons, PL.forF, e1, Option.bind_some, e2, Option.bind_some]
    exact e
theorem Ok.forSi {it : Env → Option (List D)} (I : Nat → Env → Prop) (xs : List α) (hit : it ρ = some (xs.map enc))
    (h : ∀ i a, xs[i]? = some a → ∀ ρ, I i ρ → ∃ ρ1, bnd (enc a) ρ = some ρ1 ∧ Ok body ρ1 fun fl ρ2 => fl = .nx ∧ I (i + 1) ρ2) (hi : I 0 ρ) :
    Ok (PL.forS it bnd body) ρ fun fl ρ' => fl = .nx ∧ I xs.length ρ' := by
  obtain ⟨fl, ρ', e, p⟩ := Ok.forFi (enc := enc) (bnd := bnd) (body := body) I xs 0 ρ (fun i a ha ρ hr => by rw [Nat.zero_add] at hr ⊢; exact h i a ha ρ hr) hi
  rw [Nat.zero_add] at p
  exact ⟨fl, ρ', by rw [e_forS, hit]; exact e, p⟩
theorem Ok.forEi {it : Env → Option (List D × Env)} (I : Nat → Env → Prop) (xs : List α) (hit : it ρ = some (xs.map enc, ρ1))
    (h : ∀ i a, xs[i]? = some a → ∀ ρ, I i ρ → ∃ ρ1, bnd (enc a) ρ = some ρ1 ∧ Ok body ρ1 fun fl ρ2 => fl = .nx ∧ I (i + 1) ρ2) (hi : I 0 ρ1) :
    Ok (PL.forE it bnd body) ρ fun fl ρ' => fl = .nx ∧ I xs.length ρ' := by
  obtain ⟨fl, ρ', e, p⟩ := Ok.forFi (enc := enc) (bnd := bnd) (body := body) I xs 0 ρ1 (fun i a ha ρ hr => by rw [Nat.zero_add] at hr ⊢; exact h i a ha ρ hr) hi
  rw [Nat.zero_add] at p
  exact ⟨fl, ρ', by rw [e_forE, hit]; exact e, p⟩
/-- a range of places -/
theorem range_get {n i a : Nat} (h : (List.range n)[i]? = some a) : a = i ∧ i < n := by
  obtain ⟨h1, h2⟩ := List.getElem?_eq_some_iff.mp h
  rw [List.getElem_range] at h2
  exact ⟨h2.symm, by simpa using h1⟩
theorem Ok.bd {Q : D → Prop} (h : Ok s (begE N ds) fun fl _ => ∃ v, fl = .ret v ∧ Q v) : ∃ v, bodyD N s ds = some v ∧ Q v := by
  obtain ⟨fl, ρ', e, v, rfl, q⟩ := h
  exact ⟨v, PL.bd e, q⟩
theorem Ok.bd1 {v : D} (h : Ok s (begE N ds) fun fl _ => fl = .ret v) : bodyD N s ds = some v := by
  obtain ⟨fl, ρ', e, rfl⟩ := h
  exact PL.bd e
theorem Ok.bdw {w : D} {Q : D → D → Prop} (h : Ok s (begE N (w :: ds)) fun fl ρ' => ∃ v w', fl = .ret v ∧ var 0 ρ' = some w' ∧ Q v w') : ∃ v w', bodyW N s w ds = some (v, w') ∧ Q v w' := by
  obtain ⟨fl, ρ', e, v, w', rfl, hw, q⟩ := h
  exact ⟨v, w', PL.bdw e hw, q⟩
theorem foldl_count {n : Nat} : ∀ (xs : List α) (s : Nat), xs.foldl (fun s _ => s + n) s = s + n * xs.length
  | [], s => by simp
  | _ :: xs, s => by rw [List.foldl_cons, foldl_count xs (s + n), List.length_cons, Nat.mul_add]; omega
end
end PL

set_option Elab.async false
set_option linter.all false
set_option maxRecDepth 100000
namespace PL
open PySem PySem.Spec PyProof.Rows L2 PySem.W

/-! ### values -/
section
theorem okI (a : Int) : okD (.int a) = true := rfl
theorem okS (a : Str) : okD (.str a) = true := rfl
theorem v_eqI (a b : Int) : eqB (.int a) (.int b) = some (decide (a = b)) := by
  show some (PyData.eqv (.int a) (.int b)) = _
  exact congrArg some (Datum.eqv (α := Int) a b)
theorem v_neI (a b : Int) : neB (.int a) (.int b) = some (!decide (a = b)) := by
  show some (!PyData.eqv (.int a) (.int b)) = _
  exact congrArg (fun b => some (!b)) (Datum.eqv (α := Int) a b)
theorem v_eqS (a b : Str) : eqB (.str a) (.str b) = some (decide (a = b)) := by
  show some (PyData.eqv (.str a) (.str b)) = _
  exact congrArg some (Datum.eqv (α := Str) a b)
theorem v_neS (a b : Str) : neB (.str a) (.str b) = some (!decide (a = b)) := by
  show some (!PyData.eqv (.str a) (.str b)) = _
  exact congrArg (fun b => some (!b)) (Datum.eqv (α := Str) a b)
theorem v_eqB (a b : Bool) : eqB (.bool a) (.bool b) = some (decide (a = b)) := by
  show some (PyData.eqv (.bool a) (.bool b)) = _
  exact congrArg some (Datum.eqv (α := Bool) a b)
theorem v_ltI (a b : Int) : ltB (.int a) (.int b) = some (decide (a < b)) := by
  show (if (alike (.int a) (.int b) && true && true && true) = true then some (dataLt (.int a) (.int b)) else none) = _
  rw [show alike (.int a) (.int b) = true from DatumOrd.alike (α := Int) a b, show dataLt (.int a) (.int b) = decide (a < b) from DatumOrd.lt_eq (α := Int) a b]
  rfl
theorem v_gtI (a b : Int) : gtB (.int a) (.int b) = some (decide (b < a)) := by
  show (if (alike (.int a) (.int b) && true && true && true) = true then some (dataLt (.int b) (.int a)) else none) = _
  rw [show alike (.int a) (.int b) = true from DatumOrd.alike (α := Int) a b, show dataLt (.int b) (.int a) = decide (b < a) from DatumOrd.lt_eq (α := Int) b a]
  rfl
theorem v_leI (a b : Int) : leB (.int a) (.int b) = some (decide (a ≤ b)) := by
  show (if (alike (.int a) (.int b) && true && true && true) = true then some (!dataLt (.int b) (.int a)) else none) = _
  rw [show alike (.int a) (.int b) = true from DatumOrd.alike (α := Int) a b, show dataLt (.int b) (.int a) = decide (b < a) from DatumOrd.lt_eq (α := Int) b a]
  show some (!decide (b < a)) = _
  rw [← decide_not]
  exact congrArg some (decide_eq_decide.mpr Int.not_lt)
theorem v_geI (a b : Int) : geB (.int a) (.int b) = some (decide (b ≤ a)) := by
  show (if (alike (.int a) (.int b) && true && true && true) = true then some (!dataLt (.int a) (.int b)) else none) = _
  rw [show alike (.int a) (.int b) = true from DatumOrd.alike (α := Int) a b, show dataLt (.int a) (.int b) = decide (a < b) from DatumOrd.lt_eq (α := Int) a b]
  show some (!decide (a < b)) = _
  rw [← decide_not]
  exact congrArg some (decide_eq_decide.mpr Int.not_lt)
theorem v_bD {g : D → D → Option Bool} {d e : D} : bD g d e = (g d e).map .bool := rfl
theorem v_notB {g : D → D → Option Bool} {d e : D} : notB g d e = (g d e).map (!·) := rfl
theorem v_asB (b : Bool) : asB (.bool b) = some b := rfl
theorem v_asI (i : Int) : asI (.int i) = some i := rfl
theorem v_notD (b : Bool) : notD (.bool b) = some (.bool (!b)) := rfl
theorem v_negD (i : Int) : negD (.int i) = some (.int (-i)) := rfl
theorem v_addI (a b : Int) : addA (.int a) (.int b) = some (.int (a + b)) := rfl
theorem v_addD (a b : Int) : addD (.int a) (.int b) = some (.int (a + b)) := rfl
theorem v_iop (g : Int → Int → Int) (a b : Int) : iopD g (.int a) (.int b) = some (.int (g a b)) := rfl
theorem v_subI (a b : Int) : subD (.int a) (.int b) = some (.int (a - b)) := rfl
theorem v_addS (a b : Str) (h : a.length + b.length ≤ 16777216) : addA (.str a) (.str b) = some (.str (a ++ b)) := by
  show (if a.length + b.length ≤ sizeLine then some (PyData.str (a ++ b)) else none) = _
  rw [if_pos (Nat.le_trans h line_is)]
theorem v_addT (a b : List D) (h : a.length + b.length ≤ 16777216) : addA (.tuple a) (.tuple b) = some (.tuple (a ++ b)) := by
  show (if a.length + b.length ≤ sizeLine then some (PyData.tuple (a ++ b)) else none) = _
  rw [if_pos (Nat.le_trans h line_is)]
theorem v_addL (a b : List D) (h : a.length + b.length ≤ 16777216) : addA (.list a) (.list b) = some (.list (a ++ b)) := by
  show (if a.length + b.length ≤ sizeLine then some (PyData.list (a ++ b)) else none) = _
  rw [if_pos (Nat.le_trans h line_is)]
theorem v_mulI (a b : Int) (h : (-(2 ^ 64) < a ∧ a < 2 ^ 64) ∨ (-(2 ^ 64) < b ∧ b < 2 ^ 64)) : mul2D (.int a) (.int b) = some (.int (a * b)) := by
  show (if _ then some (PyData.int (a * b)) else none) = _
  rw [if_pos h]
theorem v_modI (a b : Int) (h : 0 < b) : modD (.int a) (.int b) = some (.int (a % b)) := by
  show (if 0 < b then _ else none) = _
  rw [if_pos h]
theorem v_fdivI (a b : Int) (h : 0 < b ∧ b < 1073741824) : fdivD (.int a) (.int b) = some (.int (a / b)) := by
  show (if 0 < b ∧ b < 1073741824 then _ else none) = _
  rw [if_pos h]
theorem v_lenL (ds : List D) : lenD [.list ds] = some (.int ds.length) := rfl
theorem v_lenT (ds : List D) : lenD [.tuple ds] = some (.int ds.length) := rfl
theorem v_lenS (z : Str) : lenD [.str z] = some (.int z.length) := rfl
theorem v_lenScr (ns : List Int) : lenD [scr ns] = some (.int ns.length) := by
  show some (PyData.int ((ns.map PyData.int).length)) = _
  rw [List.length_map]
theorem v_int (i : Int) : intD [.int i] = some (.int i) := rfl
theorem v_abs (i : Int) : absD [.int i] = some (.int (if i < 0 then -i else i)) := rfl
theorem v_tupL (ds : List D) : tupleD [.list ds] = some (.tuple ds) := rfl
theorem v_tupT (ds : List D) : tupleD [.tuple ds] = some (.tuple ds) := rfl
theorem v_lstL (ds : List D) : listD [.list ds] = some (.list ds) := rfl
theorem v_lstT (ds : List D) : listD [.tuple ds] = some (.list ds) := rfl
theorem v_itL (ds : List D) : itemsA (.list ds) = some ds := rfl
theorem v_itT (ds : List D) : itemsA (.tuple ds) = some ds := rfl
theorem v_itS (z : Str) : itemsA (.str z) = some (z.cps.toList.map fun c => .str ⟨#[c]⟩) := rfl
theorem v_rng1 (n : Nat) (h : n ≤ 16777216) : rngD [.int (n : Int)] = some ((List.range n).map fun (i : Nat) => PyData.int (i : Int)) := by
  show (if _ then some (rngL 0 (n : Int).toNat) else none) = _
  rw [if_pos (by omega)]
  unfold rngL
  simp
theorem v_ixL {xs : List D} {j : Nat} {v : D} (h : xs[j]? = some v) : ixA (.list xs) (.int (j : Int)) = some v := atI_nat h
theorem v_ixT {xs : List D} {j : Nat} {v : D} (h : xs[j]? = some v) : ixA (.tuple xs) (.int (j : Int)) = some v := atI_nat h
theorem v_ixScr {ns : List Int} {j : Nat} {v : Int} (h : ns[j]? = some v) : ixA (scr ns) (.int (j : Int)) = some (.int v) := by
  show ixSD (scr ns) (.int (j : Int)) = _
  show atI (ns.map PyData.int) (j : Int) = _
  exact atI_nat (by rw [List.getElem?_map, h]; rfl)
/-! w, what a law draws from -/
abbrev Wd (xs : List Int) (i : Int) : D := .dict [(.str "draws", .list (xs.map .int)), (.str "at", .int i)]
theorem w_make (xs : List Int) (i : Int) : PyData.dict (mergeD [] [(.str "draws", .list (xs.map .int)), (.str "at", .int i)]) = Wd xs i := rfl
theorem w_at (xs : List Int) (i : Int) : ixA (Wd xs i) (.str "at") = some (.int i) := rfl
theorem w_draws (xs : List Int) (i : Int) : ixA (Wd xs i) (.str "draws") = some (.list (xs.map .int)) := rfl
theorem w_dat (xs : List Int) (i : Int) : dIx (Wd xs i) (.str "at") = some (.int i) := rfl
theorem w_put (xs : List Int) (i j : Int) : putD (Wd xs i) (.str "at") (.int j) = some (Wd xs j) := rfl
theorem cut_map {α : Type} (f : α → D) (xs : List α) (lo hi : Option Int) : ∃ ys : List α, cutD (xs.map f) lo hi = ys.map f ∧ ys.length ≤ xs.length := by
  refine ⟨(xs.drop (HT.sIx xs.length 0 lo)).take (HT.sIx xs.length xs.length hi - HT.sIx xs.length 0 lo), ?_, ?_⟩
  · unfold cutD
    rw [List.length_map, List.map_take, List.map_drop]
  · rw [List.length_take, List.length_drop]
    omega
theorem v_append (ds : List D) (x : D) (h : ds.length < 16777216) : appendD (.list ds) [x] = some (.none, .list (ds ++ [x])) := by
  show (if ds.length < 16777216 then _ else none) = _
  rw [if_pos h]
theorem v_isL (ds : List D) : mutL.asL (.list ds) = some () := rfl
/-- data that _law_same can look at -/
def smD : Nat → D → Prop
  | n + 1, .tuple ds => ds.length ≤ 16777216 ∧ ∀ d ∈ ds, smD n d
  | _ + 1, .none => True
  | _ + 1, .str _ => True
  | _ + 1, .int _ => True
  | _ + 1, .bool _ => True
  | _, _ => False
theorem smD_cln : ∀ (n : Nat) (d : D), smD n d → cln d = true
  | 0, d, h => by cases d <;> exact absurd h (by simp [smD])
  | n + 1, .tuple ds, h => by
    replace h := h.2
    show clnAll ds = true
    induction ds with
    | nil => rfl
    | cons d ds ih =>
      show (cln d && clnAll ds) = true
      rw [smD_cln n d (h d List.mem_cons_self), ih (fun e he => h e (.tail _ he))]
      rfl
  | _ + 1, .none, _ => rfl
  | _ + 1, .str _, _ => rfl
  | _ + 1, .int _, _ => rfl
  | _ + 1, .bool _, _ => rfl
  | _ + 1, .list _, h => absurd h (by simp [smD])
  | _ + 1, .dict _, h => absurd h (by simp [smD])
theorem v_inst (T : Ty) (d : D) (h : cln d = true) : instD T d = some (.bool (T.is d)) := by
  unfold instD
  rw [if_pos h]
theorem v_eqNil : eqB (.list []) (.list []) = some true := rfl
end
end PL

set_option Elab.async false
set_option linter.all false
set_option maxRecDepth 100000
namespace PL
open PySem PySem.Spec PyProof.Rows L2 PySem.W

/-! ### texts as lists of signs -/
def tx (l : List Nat) : Str := ⟨l.toArray⟩
theorem tx_cps (l : List Nat) : (tx l).cps.toList = l := List.toList_toArray
theorem tx_len (l : List Nat) : (tx l).length = l.length := List.size_toArray
theorem tx_app (a b : List Nat) : tx a ++ tx b = tx (a ++ b) := by
  show (⟨a.toArray ++ b.toArray⟩ : Str) = ⟨(a ++ b).toArray⟩
  rw [List.append_toArray]
theorem tx_inj {a b : List Nat} : tx a = tx b ↔ a = b := ⟨fun h => by have := congrArg (fun z : Str => z.cps.toList) h; simpa [tx] using this, fun h => h ▸ rfl⟩
theorem tx_of (z : Str) : z = tx z.cps.toList := by
  cases z
  unfold tx
  simp
theorem tx_one (c : Nat) : (⟨#[c]⟩ : Str) = tx [c] := rfl
abbrev tD (l : List Nat) : D := .str (tx l)
theorem t_items (l : List Nat) : itemsA (tD l) = some (l.map fun c => tD [c]) := by
  show some ((tx l).cps.toList.map _) = _
  rw [tx_cps]
  rfl
theorem t_len (l : List Nat) : lenD [tD l] = some (.int l.length) := by
  show some (PyData.int ((tx l).length : Int)) = _
  rw [tx_len]
theorem t_ix {l : List Nat} {j c : Nat} (h : l[j]? = some c) : ixA (tD l) (.int (j : Int)) = some (tD [c]) := by
  show (atI (tx l).cps.toList (j : Int)).map _ = _
  rw [tx_cps, atI_nat h]
  rfl
theorem t_add (a b : List Nat) (h : a.length + b.length ≤ 16777216) : addA (tD a) (tD b) = some (tD (a ++ b)) := by
  rw [v_addS _ _ (by rw [tx_len, tx_len]; exact h), tx_app]
theorem t_eq (a b : List Nat) : eqB (tD a) (tD b) = some (decide (a = b)) := by
  rw [v_eqS]
  exact congrArg some (decide_eq_decide.mpr tx_inj)
theorem t_ne (a b : List Nat) : neB (tD a) (tD b) = some (!decide (a = b)) := by
  rw [v_neS]
  exact congrArg (fun b => some (!b)) (decide_eq_decide.mpr tx_inj)
theorem sIx_n (n d k : Nat) : HT.sIx n d (some (k : Int)) = min k n := HT.sIx_nat n d k
/-- z[:n] -/
theorem t_take (l : List Nat) (n : Nat) : slcD (tD l) none (some (n : Int)) = some (tD (l.take n)) := by
  show some (PyData.str (cutS (tx l) none (some (n : Int)))) = _
  unfold cutS
  rw [tx_cps, tx_len, sIx_n, HT.sIx_none, List.drop_zero, Nat.sub_zero]
  show some (tD (l.take (min n l.length))) = _
  rw [← List.take_eq_take_min]
/-- z[n:] -/
theorem t_drop (l : List Nat) (n : Nat) : slcD (tD l) (some (n : Int)) none = some (tD (l.drop n)) := by
  show some (PyData.str (cutS (tx l) (some (n : Int)) none)) = _
  unfold cutS
  rw [tx_cps, tx_len, sIx_n, HT.sIx_none]
  show some (tD ((l.drop (min n l.length)).take (l.length - min n l.length))) = _
  rw [List.take_of_length_le (by rw [List.length_drop]; omega)]
  by_cases h : n ≤ l.length
  · rw [Nat.min_eq_left h]
  · rw [Nat.min_eq_right (by omega), List.drop_of_length_le (Nat.le_refl _), List.drop_of_length_le (by omega)]
theorem l_take {ds : List D} (n : Nat) : cutD ds none (some (n : Int)) = ds.take n := by
  unfold cutD
  rw [sIx_n, HT.sIx_none, List.drop_zero, Nat.sub_zero]
  rw [← List.take_eq_take_min]
theorem l_drop {ds : List D} (n : Nat) : cutD ds (some (n : Int)) none = ds.drop n := by
  unfold cutD
  rw [sIx_n, HT.sIx_none]
  rw [List.take_of_length_le (by rw [List.length_drop]; omega)]
  by_cases h : n ≤ ds.length
  · rw [Nat.min_eq_left h]
  · rw [Nat.min_eq_right (by omega), List.drop_of_length_le (Nat.le_refl _), List.drop_of_length_le (by omega)]
theorem t_rep (c n : Nat) (h : n ≤ 1000000) : mul2D (tD [c]) (.int (n : Int)) = some (tD (List.replicate n c)) := by
  show (if -1000000 ≤ (n : Int) ∧ (n : Int) ≤ 1000000 ∧ (tx [c]).length * (n : Int).toNat ≤ 1000000 ∧ (tx [c]).length ≤ 1000000 then some (PyData.str (repS (tx [c]) (n : Int))) else none) = _
  have e : (tx [c]).length = 1 := rfl
  rw [e, if_pos (by omega)]
  unfold repS
  rw [Int.toNat_natCast, tx_cps, List.flatten_replicate_singleton]
  rfl
/-! dicts keyed by texts -/
section
variable {β : Type} (C : List (List Nat × β)) (f : β → D)
abbrev dD : D := .dict (C.map fun p => (tD p.1, f p.2))
def lk (l : List Nat) : Option β := (C.find? fun p => decide (p.1 = l)).map (·.2)
theorem dD_key (l : List Nat) : keyOk (C.map fun p => (tD p.1, f p.2)) (tD l) = true := by
  unfold keyOk
  rw [List.all_map]
  simp [isKey, Function.comp_def]
theorem dD_get (l : List Nat) : dgetD (C.map fun p => (tD p.1, f p.2)) (tD l) = (lk C l).map f := by
  unfold dgetD lk
  induction C with
  | nil => rfl
  | cons p C ih =>
    have e : PyData.eqv (tD p.1) (tD l) = decide (p.1 = l) := by
      show PyData.eqv (.str (tx p.1)) (.str (tx l)) = _
      rw [show PyData.eqv (.str (tx p.1)) (.str (tx l)) = decide (tx p.1 = tx l) from Datum.eqv (α := Str) _ _]
      exact decide_eq_decide.mpr tx_inj
    rw [List.map_cons, List.find?_cons, List.find?_cons]
    by_cases h : p.1 = l
    · rw [e, decide_eq_true h]
      rfl
    · rw [e, decide_eq_false h]
      exact ih
theorem dD_get1 (l : List Nat) : get1 (dD C f) (tD l) = some (((lk C l).map f).getD .none) := by
  show (if keyOk (C.map fun p => (tD p.1, f p.2)) (tD l) = true then some ((dgetD (C.map fun p => (tD p.1, f p.2)) (tD l)).getD .none) else none) = _
  rw [if_pos (dD_key C f l), dD_get]
theorem dD_get2 (l : List Nat) (x : D) : get2 (dD C f) (tD l) x = some (((lk C l).map f).getD x) := by
  show (if keyOk (C.map fun p => (tD p.1, f p.2)) (tD l) = true then some ((dgetD (C.map fun p => (tD p.1, f p.2)) (tD l)).getD x) else none) = _
  rw [if_pos (dD_key C f l), dD_get]
theorem dD_ix (l : List Nat) : ixA (dD C f) (tD l) = (lk C l).map f := by
  show (if keyOk (C.map fun p => (tD p.1, f p.2)) (tD l) = true then dgetD (C.map fun p => (tD p.1, f p.2)) (tD l) else _) = _
  rw [if_pos (dD_key C f l), dD_get]
theorem dD_in (l : List Nat) : inB (tD l) (dD C f) = some (lk C l).isSome := by
  show (if keyOk (C.map fun p => (tD p.1, f p.2)) (tD l) = true then some (dgetD (C.map fun p => (tD p.1, f p.2)) (tD l)).isSome else none) = _
  rw [if_pos (dD_key C f l), dD_get, Option.isSome_map]
theorem dD_items (h : ∀ p ∈ C, p.1.length ≤ 1000) (hz : C.length ≤ 16777216) : itemsA (dD C f) = some (C.map fun p => tD p.1) := by
  show (if ((C.map fun p => (tD p.1, f p.2)).all fun p => keyZ p.1) = true ∧ (C.map fun p => (tD p.1, f p.2)).length ≤ 16777216 then some ((C.map fun p => (tD p.1, f p.2)).map (·.1)) else none).or (ktL (C.map fun p => (tD p.1, f p.2))) = _
  have h1 : ((C.map fun p => (tD p.1, f p.2)).all fun p => keyZ p.1) = true := by
    rw [List.all_map]
    refine List.all_eq_true.mpr fun p hp => ?_
    show decide ((tx p.1).length ≤ 16777216) = true
    rw [tx_len]
    have := h p hp
    exact decide_eq_true (by omega)
  rw [if_pos ⟨h1, by rw [List.length_map]; exact hz⟩, List.map_map]
  rfl
end
theorem in_tuple (l : List Nat) (K : List (List Nat)) : inB (tD l) (.tuple (K.map tD)) = some (decide (l ∈ K)) := by
  have hp : okD (.tuple (K.map tD)) = true := by
    have h1 : PyData.plain (.tuple ((K.map tx).map (Datum.toD (α := Str)))) = true := by
      simp only [PyData.plain]
      exact plainAll_map _
    have h2 : PyData.depth (.tuple ((K.map tx).map (Datum.toD (α := Str)))) ≤ 60 := by
      simp only [PyData.depth]
      have := depthAll_map (α := Str) (K.map tx)
      have e : Datum.depth Str = 0 := rfl
      omega
    have e : (K.map tx).map (Datum.toD (α := Str)) = K.map tD := by rw [List.map_map]; rfl
    rw [e] at h1 h2
    unfold okD
    rw [h1, decide_eq_true h2]
    rfl
  show (if (okD (tD l) && okD (.tuple (K.map tD))) = true then some ((K.map tD).any fun y => PyData.eqv y (tD l)) else none) = _
  rw [if_pos (by rw [hp]; rfl)]
  have e : (K.map tx).map (Datum.toD (α := Str)) = K.map tD := by rw [List.map_map]; rfl
  rw [← e]
  show some (((K.map tx).map Datum.toD).any fun d => PyData.eqv d (Datum.toD (tx l))) = _
  rw [any_datum (α := Str)]
  refine congrArg some (decide_eq_decide.mpr ?_)
  rw [List.mem_map]
  exact ⟨fun ⟨a, ha, e⟩ => tx_inj.mp e ▸ ha, fun h => ⟨l, h, rfl⟩⟩
theorem Ok.ret {f : Env → Option D} {ρ : Env} {d : D} {P : Fl → Env → Prop} (h : f ρ = some d) (p : P (.ret d) ρ) : Ok (retS f) ρ P := ⟨_, _, by rw [e_retS, h]; rfl, p⟩
theorem Ok.retE {f : Env → Option (D × Env)} {ρ ρ1 : Env} {d : D} {P : Fl → Env → Prop} (h : f ρ = some (d, ρ1)) (p : P (.ret d) ρ1) : Ok (PL.retE f) ρ P := ⟨_, _, by rw [e_retE, h]; rfl, p⟩
theorem Ok.asg {f : Env → Option D} {ρ : Env} {d : D} {j : Nat} {s2 : Env → Option (Fl × Env)} {P : Fl → Env → Prop} (h : f ρ = some d) (k : Ok s2 (ρ.set j (some d)) P) : Ok (seqS (asgS j f) s2) ρ P := Ok.nx (by rw [e_asgS, h]; rfl) k
theorem Ok.asgE {f : Env → Option (D × Env)} {ρ ρ1 : Env} {d : D} {j : Nat} {s2 : Env → Option (Fl × Env)} {P : Fl → Env → Prop} (h : f ρ = some (d, ρ1)) (k : Ok s2 (ρ1.set j (some d)) P) : Ok (seqS (PL.asgE j f) s2) ρ P := Ok.nx (by rw [e_asgE, h]; rfl) k
/-- a test that does not hold, its branch left out -/
theorem Ok.skip {t : Env → Option Bool} {s s2 : Env → Option (Fl × Env)} {ρ : Env} {P : Fl → Env → Prop} (h : t ρ = some false) (k : Ok s2 ρ P) : Ok (seqS (ifS t s nilS) s2) ρ P := Ok.nx (if0 h rfl) k
section
variable {α σ : Type} {enc : α → D} {bnd : D → Env → Option Env} {body : Env → Option (Fl × Env)} {ρ ρ1 : Env}
/-- a loop told as a fold; each turn knows its place -/
theorem Ok.forSf {it : Env → Option (List D)} (I : σ → Env → Prop) (step : σ → α → σ) (s0 : σ) (xs : List α) (hit : it ρ = some (xs.map enc))
    (h : ∀ i a, xs[i]? = some a → ∀ ρ, I ((xs.take i).foldl step s0) ρ → ∃ ρ1, bnd (enc a) ρ = some ρ1 ∧ Ok body ρ1 fun fl ρ2 => fl = .nx ∧ I (step ((xs.take i).foldl step s0) a) ρ2) (hi : I s0 ρ) :
    Ok (PL.forS it bnd body) ρ fun fl ρ' => fl = .nx ∧ I (xs.foldl step s0) ρ' := by
  have q := Ok.forSi (enc := enc) (bnd := bnd) (body := body) (it := it) (ρ := ρ) (fun i ρ => I ((xs.take i).foldl step s0) ρ) xs hit (fun i a ha ρ hr => by
    obtain ⟨ρ1, e1, k⟩ := h i a ha ρ hr
    refine ⟨ρ1, e1, Ok.mono k fun fl ρ2 ⟨e, j⟩ => ⟨e, ?_⟩⟩
    show I ((xs.take (i + 1)).foldl step s0) ρ2
    rw [List.take_add_one, ha, Option.toList_some, List.foldl_append]
    exact j) hi
  exact Ok.mono q fun fl ρ' ⟨e, j⟩ => ⟨e, by
    have j : I ((xs.take xs.length).foldl step s0) ρ' := j
    rwa [List.take_length] at j⟩
end
/-- a text or None -/
def oD (o : Option (List Nat)) : D := (o.map tD).getD .none
theorem o_none (o : Option (List Nat)) : isB (oD o) .none = some (!o.isSome) := by cases o <;> rfl
theorem o_ne (a b : Option (List Nat)) : neB (oD a) (oD b) = some (!decide (a = b)) := by
  cases a with
  | none => cases b <;> rfl
  | some a =>
    cases b with
    | none => rfl
    | some b =>
      show neB (tD a) (tD b) = _
      rw [t_ne]
      simp
end PL

set_option Elab.async false
set_option linter.all false
set_option maxRecDepth 100000
namespace PL
open PySem PySem.Spec PyProof.Rows L2 PySem.W

/-! ### sorted, of data with a Lean type -/
section
variable {α : Type} [DecidableEq α] [DatumOrd α]
def sortT (xs : List α) : List α := xs.mergeSort (dataLe false Datum.toD)
theorem sortL_map (xs : List α) : sortedL (xs.map Datum.toD) = (sortT xs).map Datum.toD := by
  unfold sortedL sortT
  exact (List.map_mergeSort (f := Datum.toD) (r := dataLe false Datum.toD) (fun a _ b _ => rfl)).symm
theorem toks_inj {a b : α} (h : keyToks (Datum.toD a) = keyToks (Datum.toD b)) : a = b := by
  have q := (toks_eqv (Datum.toD a) (Datum.toD b) (DatumOrd.alike a b)).2
  cases e : PyData.eqv (Datum.toD a) (Datum.toD b) with
  | true =>
    rw [Datum.eqv] at e
    exact of_decide_eq_true e
  | false =>
    have q1 := q e [] [.inl 0]
    rw [h, List.append_nil, lex_irrefl] at q1
    have : ∀ k : List (Int ⊕ List Nat), PyProof.Rows.lexLt itemOrd k (k ++ [.inl 0]) = true := fun k => by
      have := lex_pre k [] [.inl 0]
      rw [List.append_nil] at this
      rw [this]
      rfl
    rw [this] at q1
    cases q1
theorem sortT_perm {xs ys : List α} (h : xs.Perm ys) : sortT xs = sortT ys := by
  have T := sortLe_total (listOrd itemOrd) false fun k : α => keyToks (Datum.toD k)
  unfold sortT
  refine List.Perm.eq_of_pairwise (le := fun a b => dataLe false Datum.toD a b = true) (fun a b _ _ h1 h2 => toks_inj ?_) (List.pairwise_mergeSort (fun a b c => T.trans a b c) (fun a b => by simpa using T.total a b) xs) (List.pairwise_mergeSort (fun a b c => T.trans a b c) (fun a b => by simpa using T.total a b) ys) ((List.mergeSort_perm _ _).trans (h.trans (List.mergeSort_perm _ _).symm))
  have h1' : (!(listOrd itemOrd).blt (keyToks (Datum.toD b)) (keyToks (Datum.toD a))) = true := h1
  have h2' : (!(listOrd itemOrd).blt (keyToks (Datum.toD a)) (keyToks (Datum.toD b))) = true := h2
  rw [Bool.not_eq_true'] at h1' h2'
  exact (listOrd itemOrd).total _ _ h2' h1'
theorem sortT_self_perm (xs : List α) : (sortT xs).Perm xs := List.mergeSort_perm _ _
theorem sortT_mem {xs : List α} {a : α} : a ∈ sortT xs ↔ a ∈ xs := (sortT_self_perm xs).mem_iff
theorem sortT_length (xs : List α) : (sortT xs).length = xs.length := List.length_mergeSort _
/-- what sorts before -/
def leT (a b : α) : Bool := dataLe false Datum.toD a b
theorem leT_lt (a b : α) : leT a b = !DatumOrd.lt b a := by
  rw [← DatumOrd.lt_eq b a]
  rfl
theorem sortT_sorted (xs : List α) : (sortT xs).Pairwise fun a b => leT a b = true := by
  have T := sortLe_total (listOrd itemOrd) false fun k : α => keyToks (Datum.toD k)
  exact List.pairwise_mergeSort (fun a b c => T.trans a b c) (fun a b => by simpa using T.total a b) xs
theorem leT_anti {a b : α} (h1 : leT a b = true) (h2 : leT b a = true) : a = b := by
  refine toks_inj ?_
  have h1' : (!(listOrd itemOrd).blt (keyToks (Datum.toD b)) (keyToks (Datum.toD a))) = true := h1
  have h2' : (!(listOrd itemOrd).blt (keyToks (Datum.toD a)) (keyToks (Datum.toD b))) = true := h2
  rw [Bool.not_eq_true'] at h1' h2'
  exact (listOrd itemOrd).total _ _ h2' h1'
theorem leT_trans {a b c : α} (h1 : leT a b = true) (h2 : leT b c = true) : leT a c = true := (sortLe_total (listOrd itemOrd) false fun k : α => keyToks (Datum.toD k)).trans a b c h1 h2
theorem leT_total (a b : α) : leT a b = true ∨ leT b a = true := by
  have h := (sortLe_total (listOrd itemOrd) false fun k : α => keyToks (Datum.toD k)).total a b
  first | exact h | exact Bool.or_eq_true_iff.mp h
theorem sortT_id {xs : List α} (h : xs.Pairwise fun a b => leT a b = true) : sortT xs = xs :=
  List.Perm.eq_of_pairwise (le := fun a b => leT a b = true) (fun a b _ _ h1 h2 => leT_anti h1 h2) (sortT_sorted xs) h (sortT_self_perm xs)
theorem okD_map (hd : Datum.depth α ≤ 60) (a : α) : okD (Datum.toD a) = true := by
  unfold okD
  rw [Datum.plain, decide_eq_true (Nat.le_trans (Datum.depth_le a) hd)]
  rfl
def tupN : D → Bool
  | .tuple (_ :: _) => true
  | _ => false
def flatN : D → Bool
  | .tuple _ => false
  | .none => false
  | _ => true
theorem sortOk_map (hd : Datum.depth α ≤ 60) {xs : List α} (hs : (∀ x ∈ xs, tupN (Datum.toD x) = true) ∨ ∀ x ∈ xs, flatN (Datum.toD x) = true) : sortOk (xs.map Datum.toD) = true := by
  unfold sortOk
  simp only [Bool.and_eq_true, Bool.or_eq_true, List.all_map, List.all_eq_true, Function.comp_apply]
  refine ⟨⟨fun k _ => okD_map hd k, fun j hj k hk => DatumOrd.alike j k⟩, ?_⟩
  rcases hs with h | h
  · refine .inl fun k hk => ?_
    have := h k hk
    unfold tupN at this
    exact this
  · refine .inr fun k hk => ?_
    have := h k hk
    unfold flatN at this
    exact this
theorem v_sorted (hd : Datum.depth α ≤ 60) {xs : List α} (hs : (∀ x ∈ xs, tupN (Datum.toD x) = true) ∨ ∀ x ∈ xs, flatN (Datum.toD x) = true) : sortedA [.list (xs.map Datum.toD)] = some (.list ((sortT xs).map Datum.toD)) := by
  show (if sortOk (xs.map Datum.toD) = true then some (PyData.list (sortedL (xs.map Datum.toD))) else none) = _
  rw [if_pos (sortOk_map hd hs), sortL_map]
theorem v_sortedT (hd : Datum.depth α ≤ 60) {xs : List α} (hs : (∀ x ∈ xs, tupN (Datum.toD x) = true) ∨ ∀ x ∈ xs, flatN (Datum.toD x) = true) : sortedA [.tuple (xs.map Datum.toD)] = some (.list ((sortT xs).map Datum.toD)) := by
  show (if sortOk (xs.map Datum.toD) = true then some (PyData.list (sortedL (xs.map Datum.toD))) else none) = _
  rw [if_pos (sortOk_map hd hs), sortL_map]
theorem v_eqT (hd : Datum.depth α ≤ 60) (a b : α) : eqB (Datum.toD a) (Datum.toD b) = some (decide (a = b)) := by
  unfold eqB
  rw [okD_map hd, okD_map hd, Datum.eqv]
  rfl
theorem v_neT (hd : Datum.depth α ≤ 60) (a b : α) : neB (Datum.toD a) (Datum.toD b) = some (!decide (a = b)) := by
  unfold neB
  rw [okD_map hd, okD_map hd, Datum.eqv]
  rfl
end
/-- the sorted, each once -/
def uniq {α : Type} [DecidableEq α] : List α → List α → List α
  | acc, [] => acc
  | acc, x :: xs => if x ∈ acc then uniq acc xs else uniq (acc ++ [x]) xs
section
variable {α : Type} [DecidableEq α] [DatumOrd α]
theorem uniqD_map : ∀ (xs acc : List α), uniqD (acc.map Datum.toD) (xs.map Datum.toD) = (uniq acc xs).map Datum.toD
  | [], acc => rfl
  | x :: xs, acc => by
    have e : ((acc.map Datum.toD).any fun y => PyData.eqv y (Datum.toD x)) = decide (x ∈ acc) := any_datum acc x
    show (if _ then _ else _) = _
    rw [e]
    show _ = List.map Datum.toD (if _ then _ else _)
    by_cases h : x ∈ acc
    · rw [decide_eq_true h, if_pos rfl, if_pos h]
      exact uniqD_map xs acc
    · rw [decide_eq_false h, if_neg Bool.false_ne_true, if_neg h, ← uniqD_map xs (acc ++ [x]), List.map_append]
      rfl
theorem uniq_nodup : ∀ (xs acc : List α), acc.Nodup → (uniq acc xs).Nodup
  | [], acc, h => h
  | x :: xs, acc, h => by
    unfold uniq
    split
    · exact uniq_nodup xs acc h
    · rename_i hk
      refine uniq_nodup xs _ (List.nodup_append.mpr ⟨h, by simp, fun a ha b hb => ?_⟩)
      rw [List.mem_singleton.mp hb]
      intro e
      exact hk (e ▸ ha)
theorem uniq_mem : ∀ (xs acc : List α) (j : α), j ∈ uniq acc xs ↔ j ∈ acc ∨ j ∈ xs
  | [], acc, j => by simp [uniq]
  | x :: xs, acc, j => by
    unfold uniq
    split
    · rename_i hk
      rw [uniq_mem xs acc j, List.mem_cons]
      constructor
      · rintro (h | h)
        · exact .inl h
        · exact .inr (.inr h)
      · rintro (h | h | h)
        · exact .inl h
        · exact .inl (h ▸ hk)
        · exact .inr h
    · rw [uniq_mem xs _ j, List.mem_append, List.mem_singleton, List.mem_cons]
      constructor
      · rintro ((h | h) | h)
        · exact .inl h
        · exact .inr (.inl h)
        · exact .inr (.inr h)
      · rintro (h | h | h)
        · exact .inl (.inl h)
        · exact .inl (.inr h)
        · exact .inr h
theorem uniq_len : ∀ (xs acc : List α), (uniq acc xs).length ≤ acc.length + xs.length
  | [], acc => Nat.le_refl _
  | x :: xs, acc => by
    unfold uniq
    split
    · have := uniq_len xs acc
      rw [List.length_cons]
      omega
    · have := uniq_len xs (acc ++ [x])
      rw [List.length_append, List.length_singleton] at this
      rw [List.length_cons]
      omega
/-- sorted(set(xs)) -/
def sset (xs : List α) : List α := sortT (uniq [] xs)
theorem sset_mem {xs : List α} {a : α} : a ∈ sset xs ↔ a ∈ xs := by
  unfold sset
  rw [sortT_mem, uniq_mem]
  simp
theorem sset_nodup (xs : List α) : (sset xs).Nodup := (sortT_self_perm _).nodup_iff.mpr (uniq_nodup xs [] List.nodup_nil)
theorem sset_sorted (xs : List α) : (sset xs).Pairwise fun a b => leT a b = true := sortT_sorted _
theorem sset_length (xs : List α) : (sset xs).length ≤ xs.length := by
  unfold sset
  rw [sortT_length]
  have := uniq_len xs []
  rw [List.length_nil, Nat.zero_add] at this
  exact this
/-- two lists of the same members -/
theorem sset_ext {xs ys : List α} (h : ∀ a, a ∈ xs ↔ a ∈ ys) : sset xs = sset ys :=
  sortT_perm ((List.perm_ext_iff_of_nodup (uniq_nodup xs [] List.nodup_nil) (uniq_nodup ys [] List.nodup_nil)).mpr fun a => by rw [uniq_mem, uniq_mem]; simp [h])
theorem sset_id {xs : List α} (h1 : xs.Nodup) (h2 : xs.Pairwise fun a b => leT a b = true) : sset xs = xs := by
  unfold sset
  rw [sortT_perm ((List.perm_ext_iff_of_nodup (uniq_nodup xs [] List.nodup_nil) h1).mpr fun a => by rw [uniq_mem]; simp), sortT_id h2]
end
theorem setOk_t (xs : List Str) (h : ∀ x ∈ xs, x.length ≤ 16777216) : setOk (xs.map Datum.toD) = true := by
  refine Bool.or_eq_true_iff.mpr (.inr ?_)
  rw [List.all_map]
  exact List.all_eq_true.mpr fun x hx => decide_eq_true (h x hx)
theorem v_ssetL (xs : List Str) (h : ∀ x ∈ xs, x.length ≤ 16777216) (hz : xs.length ≤ 4000) : sortSetD (.list (xs.map Datum.toD)) = some (.list ((sset xs).map Datum.toD)) := by
  show (if _ ∧ _ then some (PyData.list (sortedL (uniqD [] (xs.map Datum.toD)))) else none) = _
  rw [if_pos ⟨setOk_t xs h, by rw [List.length_map]; exact hz⟩]
  have := uniqD_map xs []
  rw [List.map_nil] at this
  rw [this, sortL_map]
  rfl
theorem v_ssetT (xs : List Str) (h : ∀ x ∈ xs, x.length ≤ 16777216) (hz : xs.length ≤ 4000) : sortSetD (.tuple (xs.map Datum.toD)) = some (.list ((sset xs).map Datum.toD)) := by
  show (if _ ∧ _ then some (PyData.list (sortedL (uniqD [] (xs.map Datum.toD)))) else none) = _
  rw [if_pos ⟨setOk_t xs h, by rw [List.length_map]; exact hz⟩]
  have := uniqD_map xs []
  rw [List.map_nil] at this
  rw [this, sortL_map]
  rfl
theorem v_lset (xs : List Str) (h : ∀ x ∈ xs, x.length ≤ 16777216) (hz : xs.length ≤ 4000) : lenSetD (.list (xs.map Datum.toD)) = some (.int ((uniq [] xs).length : Int)) := by
  show (if _ ∧ _ then some (PyData.int ((uniqD [] (xs.map Datum.toD)).length : Int)) else none) = _
  rw [if_pos ⟨setOk_t xs h, by rw [List.length_map]; exact hz⟩]
  have := uniqD_map xs []
  rw [List.map_nil] at this
  rw [this, List.length_map]
section
variable {α : Type} {enc : α → D} {bnd : D → Env → Option Env} {tt : Env → Option Bool} {te : Env → Option D} {it : Env → Option (List D)} {vs : List Nat} {ρ : Env}
theorem lc_ok (p : α → Bool) (g : α → D) (xs : List α) (hit : it ρ = some (xs.map enc)) (h : ∀ a ∈ xs, ∃ ρ1, bnd (enc a) (wipeE ρ vs) = some ρ1 ∧ tt ρ1 = some (p a) ∧ (p a = true → te ρ1 = some (g a))) : lc it vs bnd tt te ρ = some (.list ((xs.filter p).map g)) := by
  rw [e_lc, hit, Option.bind_some, lc_map p g xs h]
  rfl
theorem lc_okA (g : α → D) (xs : List α) (hit : it ρ = some (xs.map enc)) (h : ∀ a ∈ xs, ∃ ρ1, bnd (enc a) (wipeE ρ vs) = some ρ1 ∧ tt ρ1 = some true ∧ te ρ1 = some (g a)) : lc it vs bnd tt te ρ = some (.list (xs.map g)) := by
  rw [e_lc, hit, Option.bind_some, lc_all g xs h]
  rfl
end
end PL

set_option Elab.async false
set_option linter.all false
set_option maxRecDepth 100000
namespace PL
open PySem PySem.Spec PyProof.Rows L2 PySem.W

/-! ### least, greatest -/
section
variable {α : Type} [DecidableEq α] [DatumOrd α]
theorem leT_refl (a : α) : leT a a = true := by rcases leT_total a a with h | h <;> exact h
theorem leT_of_not {a b : α} (h : ¬ leT a b = true) : leT b a = true := by
  rcases leT_total a b with h1 | h1
  · exact absurd h1 h
  · exact h1
theorem lt_leT {a b : α} : DatumOrd.lt a b = true ↔ ¬ leT b a = true := by
  rw [leT_lt]
  cases DatumOrd.lt a b <;> simp
theorem minOf_spec : ∀ (xs : List α) (x : α), minOf x xs ∈ x :: xs ∧ ∀ y ∈ x :: xs, leT (minOf x xs) y = true
  | [], x => ⟨List.mem_singleton.mpr rfl, fun y hy => by rw [List.mem_singleton.mp hy]; exact leT_refl x⟩
  | z :: xs, x => by
    have e : minOf x (z :: xs) = minOf (if DatumOrd.lt z x = true then z else x) xs := rfl
    obtain ⟨h1, h2⟩ := minOf_spec xs (if DatumOrd.lt z x = true then z else x)
    rw [e]
    by_cases h : DatumOrd.lt z x = true
    · rw [if_pos h] at h1 h2 ⊢
      refine ⟨?_, fun y hy => ?_⟩
      · rcases List.mem_cons.mp h1 with q | q
        · rw [q]; exact .tail _ (.head _)
        · exact .tail _ (.tail _ q)
      · rcases List.mem_cons.mp hy with rfl | hy
        · exact leT_trans (h2 z List.mem_cons_self) (leT_of_not (lt_leT.mp h))
        · exact h2 y hy
    · rw [if_neg h] at h1 h2 ⊢
      refine ⟨?_, fun y hy => ?_⟩
      · rcases List.mem_cons.mp h1 with q | q
        · rw [q]; exact .head _
        · exact .tail _ (.tail _ q)
      · rcases List.mem_cons.mp hy with rfl | hy
        · exact h2 y List.mem_cons_self
        · rcases List.mem_cons.mp hy with rfl | hy
          · have q : leT x y = true := by
              exact Decidable.byContradiction fun z => h (lt_leT.mpr z)
            exact leT_trans (h2 x List.mem_cons_self) q
          · exact h2 y (.tail _ hy)
theorem maxOf_spec : ∀ (xs : List α) (x : α), maxOf x xs ∈ x :: xs ∧ ∀ y ∈ x :: xs, leT y (maxOf x xs) = true
  | [], x => ⟨List.mem_singleton.mpr rfl, fun y hy => by rw [List.mem_singleton.mp hy]; exact leT_refl x⟩
  | z :: xs, x => by
    have e : maxOf x (z :: xs) = maxOf (if DatumOrd.lt x z = true then z else x) xs := rfl
    obtain ⟨h1, h2⟩ := maxOf_spec xs (if DatumOrd.lt x z = true then z else x)
    rw [e]
    by_cases h : DatumOrd.lt x z = true
    · rw [if_pos h] at h1 h2 ⊢
      refine ⟨?_, fun y hy => ?_⟩
      · rcases List.mem_cons.mp h1 with q | q
        · rw [q]; exact .tail _ (.head _)
        · exact .tail _ (.tail _ q)
      · rcases List.mem_cons.mp hy with rfl | hy
        · exact leT_trans (leT_of_not (lt_leT.mp h)) (h2 z List.mem_cons_self)
        · exact h2 y hy
    · rw [if_neg h] at h1 h2 ⊢
      refine ⟨?_, fun y hy => ?_⟩
      · rcases List.mem_cons.mp h1 with q | q
        · rw [q]; exact .head _
        · exact .tail _ (.tail _ q)
      · rcases List.mem_cons.mp hy with rfl | hy
        · exact h2 y List.mem_cons_self
        · rcases List.mem_cons.mp hy with rfl | hy
          · have q : leT y x = true := by
              exact Decidable.byContradiction fun z => h (lt_leT.mpr z)
            exact leT_trans q (h2 x List.mem_cons_self)
          · exact h2 y (.tail _ hy)
theorem minmaxOk_map (hd : Datum.depth α ≤ 60) (xs : List α) : minmaxOk (xs.map Datum.toD) = true := by
  unfold minmaxOk
  simp only [Bool.and_eq_true, List.all_map, List.all_eq_true, Function.comp_apply]
  refine ⟨⟨fun k _ => okD_map hd k, fun j hj k hk => DatumOrd.alike j k⟩, fun k _ => ?_⟩
  have := DatumOrd.notNone k
  revert this
  cases Datum.toD k <;> simp [nonN]
theorem v_minL (hd : Datum.depth α ≤ 60) (x : α) (xs : List α) : minDD [.list ((x :: xs).map Datum.toD)] = some (Datum.toD (minOf x xs)) := by
  show (if minmaxOk ((x :: xs).map Datum.toD) = true then some (minD (Datum.toD x) (xs.map Datum.toD)) else none) = _
  rw [if_pos (minmaxOk_map hd _), minD_map]
theorem v_maxL (hd : Datum.depth α ≤ 60) (x : α) (xs : List α) : maxDD [.list ((x :: xs).map Datum.toD)] = some (Datum.toD (maxOf x xs)) := by
  show (if minmaxOk ((x :: xs).map Datum.toD) = true then some (maxD (Datum.toD x) (xs.map Datum.toD)) else none) = _
  rw [if_pos (minmaxOk_map hd _), maxD_map]
end
theorem leT_int {a b : Int} : leT a b = true ↔ a ≤ b := by
  rw [leT_lt]
  show (!decide (b < a)) = true ↔ _
  simp
/-! ### while -/
theorem while_ok {c : Env → Option Bool} {body : Env → Option (Fl × Env)} (I : Nat → Env → Prop) (t : Nat) (hc : ∀ s ρ, s < t → I s ρ → c ρ = some true ∧ ∃ ρ2, body ρ = some (.nx, ρ2) ∧ I (s + 1) ρ2) (he : ∀ ρ, I t ρ → c ρ = some false) :
    ∀ (k fuel s : Nat) (ρ : Env), t = s + k → k < fuel → I s ρ → ∃ ρ', whileF c body fuel ρ = some (.nx, ρ') ∧ I t ρ'
  | 0, 0, s, ρ, _, h, _ => absurd h (Nat.lt_irrefl _)
  | 0, f + 1, s, ρ, e, _, hi => by
    have e : t = s := e
    subst e
    refine ⟨ρ, ?_, hi⟩
    rw [whileF, he ρ hi]
    rfl
  | k + 1, 0, s, ρ, _, h, _ => absurd h (Nat.not_lt_zero _)
  | k + 1, f + 1, s, ρ, e, h, hi => by
    obtain ⟨h1, ρ2, h2, h3⟩ := hc s ρ (by omega) hi
    obtain ⟨ρ', h4, h5⟩ := while_ok I t hc he k f (s + 1) ρ2 (by omega) (by omega) h3
    refine ⟨ρ', ?_, h5⟩
    rw [whileF, h1]
    show (body ρ).bind _ = _
    rw [h2]
    exact h4
/-! ### dicts from pairs -/
theorem dput_new {kvs : List (D × D)} {k v : D} (h : ∀ p ∈ kvs, PyData.eqv p.1 k = false) : dputD kvs k v = kvs ++ [(k, v)] := by
  unfold dputD
  have : (kvs.any fun p => PyData.eqv p.1 k) = false := List.any_eq_false.mpr fun p hp => by rw [h p hp]; exact Bool.false_ne_true
  rw [this, if_neg Bool.false_ne_true]
theorem merge_nodup {α : Type} [DecidableEq α] [Datum α] : ∀ (l acc : List (α × D)), ((acc ++ l).map (·.1)).Nodup → mergeD (acc.map fun p => (Datum.toD p.1, p.2)) (l.map fun p => (Datum.toD p.1, p.2)) = (acc ++ l).map fun p => (Datum.toD p.1, p.2)
  | [], acc, _ => by rw [List.append_nil]; rfl
  | p :: l, acc, h => by
    have hnew : ∀ q ∈ acc.map (fun p => ((Datum.toD p.1 : D), p.2)), PyData.eqv q.1 (Datum.toD p.1) = false := fun q hq => by
      obtain ⟨r, hr, rfl⟩ := List.mem_map.mp hq
      show PyData.eqv (Datum.toD r.1) (Datum.toD p.1) = false
      rw [Datum.eqv, decide_eq_false_iff_not]
      intro e
      rw [List.map_append, List.nodup_append] at h
      exact h.2.2 r.1 (List.mem_map_of_mem hr) p.1 (List.mem_map_of_mem List.mem_cons_self) e
    have e : mergeD (acc.map fun p => (Datum.toD p.1, p.2)) ((p :: l).map fun p => (Datum.toD p.1, p.2)) = mergeD (dputD (acc.map fun p => (Datum.toD p.1, p.2)) (Datum.toD p.1) p.2) (l.map fun p => (Datum.toD p.1, p.2)) := rfl
    have e2 : (acc.map fun p => ((Datum.toD p.1 : D), p.2)) ++ [(Datum.toD p.1, p.2)] = (acc ++ [p]).map fun p => (Datum.toD p.1, p.2) := by rw [List.map_append]; rfl
    rw [e, dput_new hnew, e2, merge_nodup l (acc ++ [p]) (by rw [List.append_assoc]; exact h), List.append_assoc]
    rfl
/-! ### sizes -/
theorem uniq_factor {α β : Type} [DecidableEq α] [DatumOrd α] [DecidableEq β] [DatumOrd β] (g : α → β) (xs : List α) : (uniq [] (xs.map g)).length ≤ (uniq [] xs).length := by
  have h := List.Nodup.length_le_of_subset (l₁ := uniq [] (xs.map g)) (l₂ := (uniq [] xs).map g) (uniq_nodup _ [] List.nodup_nil) fun b hb => by
    rw [uniq_mem] at hb
    rcases hb with hb | hb
    · cases hb
    · obtain ⟨a, ha, rfl⟩ := List.mem_map.mp hb
      exact List.mem_map_of_mem ((uniq_mem _ _ _).mpr (.inr ha))
  rwa [List.length_map] at h
/-! ### comprehensions that draw -/
theorem lcE_sub {α : Type} {enc : α → D} {bnd : D → Env → Option Env} {vs : List Nat} {tt : Env → Option (Bool × Env)} {te : Env → Option (D × Env)} (I : Env → Prop) (G : α → D → Prop) : ∀ (xs : List α) (ρ : Env),
    (∀ a ∈ xs, ∀ ρ, I ρ → ∃ ρ1 b ρ2, bnd (enc a) ρ = some ρ1 ∧ tt ρ1 = some (b, ρ2) ∧ (b = false → I (wipeE ρ2 vs)) ∧ (b = true → ∃ y ρ3, te ρ2 = some (y, ρ3) ∧ G a y ∧ I (wipeE ρ3 vs))) → I ρ →
    ∃ (ys : List (α × D)) (ρ' : Env), lcFE bnd tt te vs (xs.map enc) ρ = some (ys.map (·.2), ρ') ∧ (ys.map (·.1)).Sublist xs ∧ (∀ p ∈ ys, G p.1 p.2) ∧ I ρ'
  | [], ρ, _, hi => ⟨[], ρ, rfl, List.Sublist.slnil, (fun y hy => nomatch hy), hi⟩
  | d :: ds, ρ, h, hi => by
    obtain ⟨ρ1, b, ρ2, h1, h2, h3, h4⟩ := h d List.mem_cons_self ρ hi
    have hr := fun b hb => h b (List.mem_cons_of_mem _ hb)
    cases b with
    | false =>
      obtain ⟨ys, ρ', e, g, l, i⟩ := lcE_sub I G ds _ hr (h3 rfl)
      refine ⟨ys, ρ', ?_, g.cons _, l, i⟩
      rw [List.map_cons, lcFE, h1, Option.bind_some, h2, Option.bind_some]
      exact e
    | true =>
      obtain ⟨y, ρ3, e3, gy, i3⟩ := h4 rfl
      obtain ⟨ys, ρ', e, g, l, i⟩ := lcE_sub I G ds _ hr i3
      refine ⟨(d, y) :: ys, ρ', ?_, g.cons_cons _, fun z hz => ?_, i⟩
      · rw [List.map_cons, lcFE, h1, Option.bind_some, h2, Option.bind_some]
        show (te ρ2).bind _ = _
        rw [e3, Option.bind_some]
        show (lcFE bnd tt te vs (ds.map enc) (wipeE ρ3 vs)).bind _ = _
        rw [e]
        rfl
      · rcases List.mem_cons.mp hz with rfl | hz
        · exact gy
        · exact l z hz
end PL

set_option Elab.async false
set_option linter.all false
set_option maxRecDepth 100000
namespace PL
open PySem PySem.Spec PyProof.Rows L2 PySem.W

theorem okD_ints (l : List Int) : okD (.list (l.map .int)) = true := by
  have := okD_map (α := List Int) (by decide) l
  exact this
theorem lay_ints : ∀ (l : List Int), PyData.canLayAll0 (l.map .int) = true
  | [] => rfl
  | x :: xs => by
    show (PyData.canLay0 (.int x) && PyData.canLayAll0 (xs.map .int)) = true
    rw [lay_ints xs]
    rfl
/-- l.index(m) of ints -/
theorem v_index (l : List Int) (m : Int) (h : m ∈ l) : indexD (.list (l.map .int)) (.int m) = some (.int ((l.findIdx fun y => decide (y = m) : Nat) : Int)) := by
  show (if (okD (.int m) && okD (.list (l.map .int)) && PyData.canLay0 (.int m) && PyData.canLayAll0 (l.map .int)) = true then ((l.map PyData.int).findIdx? fun y => PyData.eqv y (.int m)).map (fun (j : Nat) => PyData.int (j : Int)) else none) = _
  rw [if_pos (by rw [okD_ints, lay_ints]; rfl), List.findIdx?_map]
  have e : ((fun y => PyData.eqv y (.int m)) ∘ PyData.int) = fun y : Int => decide (y = m) := by
    funext y
    exact Datum.eqv (α := Int) y m
  rw [e, List.findIdx?_eq_some_iff_findIdx_eq.mpr ⟨List.findIdx_lt_length_of_exists ⟨m, h, decide_eq_true rfl⟩, rfl⟩]
  rfl
/-- sorted of a dict whose keys are texts -/
theorem v_sortedDict (ps : List (Str × D)) (h : ∀ p ∈ ps, p.1.length ≤ 1000) : sortedA [.dict (ps.map fun p => (.str p.1, p.2))] = some (.list ((sortT (ps.map (·.1))).map Datum.toD)) := by
  have e : (ps.map fun p => ((.str p.1 : D), p.2)).map (·.1) = (ps.map (·.1)).map Datum.toD := by
    rw [List.map_map, List.map_map]
    rfl
  show (if ((ps.map fun p => ((.str p.1 : D), p.2)).all fun p => keyZ p.1) = true ∧ sortOk ((ps.map fun p => ((.str p.1 : D), p.2)).map (·.1)) = true then some (PyData.list (sortedL ((ps.map fun p => ((.str p.1 : D), p.2)).map (·.1)))) else none) = _
  have h1 : ((ps.map fun p => ((.str p.1 : D), p.2)).all fun p => keyZ p.1) = true := by
    rw [List.all_map]
    refine List.all_eq_true.mpr fun p hp => ?_
    have := h p hp
    exact decide_eq_true (show p.1.length ≤ 16777216 by omega)
  rw [e, if_pos ⟨h1, sortOk_map (by decide) (.inr fun _ _ => rfl)⟩, sortL_map]
/-- a dict made of pairs with keys that are texts, all different -/
theorem v_dictT (ps : List (Str × D)) (h : (ps.map (·.1)).Nodup) (hz : ps.length ≤ 1000000) : dictD [.list (ps.map fun p => .tuple [.str p.1, p.2])] = some (.dict (ps.map fun p => (.str p.1, p.2))) := by
  have e1 : ∀ ps : List (Str × D), pairsD (ps.map fun p => .tuple [.str p.1, p.2]) = some (ps.map fun p => (.str p.1, p.2)) := by
    intro ps
    induction ps with
    | nil => rfl
    | cons p ps ih =>
      show (if isKey (.str p.1) = true then (pairsD (ps.map fun p => .tuple [.str p.1, p.2])).map _ else none) = _
      rw [ih]
      rfl
  show (pairsD _).map _ = _
  rw [e1, Option.map_some]
  have := merge_nodup (α := Str) ps [] (by rw [List.nil_append]; exact h)
  rw [List.nil_append] at this
  exact congrArg (fun l => some (PyData.dict l)) this
section
variable {β : Type} (f : β → D)
theorem v_lenDict : ∀ A : List (List Nat × β), lenD [dD A f] = some (.int (A.length : Nat))
  | [] => rfl
  | [p] => rfl
  | p :: q :: A => by
    show (if ((p :: q :: A).map fun p => (tD p.1, f p.2)).all (fun p => nonN p.1) = true then some (PyData.int (((p :: q :: A).map fun p => ((tD p.1 : D), f p.2)).length : Int)) else none) = _
    have h : ((p :: q :: A).map fun p => ((tD p.1 : D), f p.2)).all (fun p => nonN p.1) = true := by
      rw [List.all_map]
      exact List.all_eq_true.mpr fun p _ => rfl
    rw [if_pos h, List.length_map]
theorem cln_dict : ∀ A : List (List Nat × β), (∀ p ∈ A, cln (f p.2) = true) → cln (dD A f) = true := by
  intro A h
  show clnKv _ = true
  induction A with
  | nil => rfl
  | cons p A ih =>
    show (cln (f p.2) && clnKv (A.map fun p => (tD p.1, f p.2))) = true
    rw [h p List.mem_cons_self, ih fun q hq => h q (.tail _ hq)]
    rfl
theorem lk_some {A : List (List Nat × β)} (h : (A.map (·.1)).Nodup) {p : List Nat × β} (hp : p ∈ A) : lk A p.1 = some p.2 := by
  unfold lk
  induction A with
  | nil => cases hp
  | cons q A ih =>
    rw [List.find?_cons]
    rw [List.map_cons, List.nodup_cons] at h
    rcases List.mem_cons.mp hp with rfl | hp
    · rw [decide_eq_true rfl]
      rfl
    · have : ¬ q.1 = p.1 := fun e => h.1 (e ▸ List.mem_map_of_mem hp)
      rw [decide_eq_false this]
      exact ih h.2 hp
theorem lk_mem {A : List (List Nat × β)} {k : List Nat} {v : β} (h : lk A k = some v) : (k, v) ∈ A := by
  unfold lk at h
  obtain ⟨p, hp, rfl⟩ := Option.map_eq_some_iff.mp h
  have h1 := List.find?_some hp
  have h2 := List.mem_of_find?_eq_some hp
  have e : p.1 = k := of_decide_eq_true h1
  rw [← e]
  exact h2
end
theorem nodup_map {α β : Type} {f : α → β} (hf : ∀ x y, f x = f y → x = y) {l : List α} (h : l.Nodup) : (l.map f).Nodup := List.Pairwise.map f (fun a b hab e => hab (hf a b e)) h
end PL

set_option Elab.async false
set_option linter.all false
set_option maxRecDepth 100000
namespace PL
open PySem PySem.Spec PyProof.Rows L2 PySem.W

/-! ### dicts whose keys have a Lean type -/
theorem keyN_of {d : D} (h : isKey d = true ∨ isKeys d = true) : keyN d = d := by
  cases d <;> simp [isKey, isKeys] at h <;> rfl
theorem keyP_key {d : D} (h : isKey d = true) : keyP d = d ∧ isPut d = true := by
  cases d <;> simp [isKey] at h <;> exact ⟨rfl, rfl⟩
theorem keyP_keys {d : D} (h : isKeys d = true) : keyN (keyP d) = d ∧ isPut (keyP d) = true := by
  cases d <;> simp [isKeys] at h <;> exact ⟨rfl, rfl⟩
class DKey (κ : Type) [DecidableEq κ] [Datum κ] : Prop where
  kind : (∀ k : κ, isKey (Datum.toD k) = true) ∨ ∀ k : κ, isKeys (Datum.toD k) = true
instance : DKey Int := ⟨.inl fun _ => rfl⟩
instance : DKey Str := ⟨.inl fun _ => rfl⟩
section
variable {κ β : Type} [DecidableEq κ] (A : List (κ × β))
def glk (k : κ) : Option β := (A.find? fun p => decide (p.1 = k)).map (·.2)
def gput (k : κ) (v : β) : List (κ × β) := if (A.any fun p => decide (p.1 = k)) = true then A.map (fun p => if p.1 = k then (p.1, v) else p) else A ++ [(k, v)]
theorem g_some {A : List (κ × β)} (h : (A.map (·.1)).Nodup) {p : κ × β} (hp : p ∈ A) : glk A p.1 = some p.2 := by
  unfold glk
  induction A with
  | nil => cases hp
  | cons q A ih =>
    rw [List.find?_cons]
    rw [List.map_cons, List.nodup_cons] at h
    rcases List.mem_cons.mp hp with rfl | hp
    · rw [decide_eq_true rfl]
      rfl
    · have : ¬ q.1 = p.1 := fun e => h.1 (e ▸ List.mem_map_of_mem hp)
      rw [decide_eq_false this]
      exact ih h.2 hp
theorem g_none {A : List (κ × β)} {k : κ} (h : k ∉ A.map (·.1)) : glk A k = none := by
  unfold glk
  rw [List.find?_eq_none.mpr]
  · rfl
  · intro p hp e
    exact h (of_decide_eq_true e ▸ List.mem_map_of_mem hp)
theorem g_mem {A : List (κ × β)} {k : κ} {v : β} (h : glk A k = some v) : (k, v) ∈ A := by
  unfold glk at h
  obtain ⟨p, hp, rfl⟩ := Option.map_eq_some_iff.mp h
  have h1 := List.find?_some hp
  have h2 := List.mem_of_find?_eq_some hp
  have e : p.1 = k := of_decide_eq_true h1
  rw [← e]
  exact h2
end
section
variable {κ β : Type} [DecidableEq κ] [Datum κ] [DKey κ] (A : List (κ × β)) (f : β → D)
abbrev gD : D := .dict (A.map fun p => (Datum.toD p.1, f p.2))
theorem gd_key (k : κ) : keyOk (A.map fun p => (Datum.toD p.1, f p.2)) (Datum.toD k) = true := by
  unfold keyOk
  rw [List.all_map, List.all_map]
  rcases DKey.kind (κ := κ) with h | h
  · simp [h, Function.comp_def]
  · simp [h, Function.comp_def]
theorem gd_get (k : κ) : dgetD (A.map fun p => (Datum.toD p.1, f p.2)) (Datum.toD k) = (glk A k).map f := by
  unfold dgetD glk
  induction A with
  | nil => rfl
  | cons p A ih =>
    rw [List.map_cons, List.find?_cons, List.find?_cons]
    have e : PyData.eqv (Datum.toD p.1) (Datum.toD k) = decide (p.1 = k) := Datum.eqv _ _
    by_cases h : p.1 = k
    · rw [e, decide_eq_true h]
      rfl
    · rw [e, decide_eq_false h]
      exact ih
theorem gd_N (k : κ) : keyN (Datum.toD k) = Datum.toD k := keyN_of (DKey.kind (κ := κ) |>.imp (fun h => h k) fun h => h k)
theorem gd_P (k : κ) : keyN (keyP (Datum.toD k)) = Datum.toD k ∧ isPut (keyP (Datum.toD k)) = true := by
  rcases DKey.kind (κ := κ) with h | h
  · have := keyP_key (h k)
    rw [this.1]
    exact ⟨gd_N k, this.2⟩
  · exact keyP_keys (h k)
theorem gd_get1 (k : κ) : get1 (gD A f) (Datum.toD k) = some (((glk A k).map f).getD .none) := by
  show (if keyOk _ (keyN _) = true then _ else none) = _
  rw [gd_N, if_pos (gd_key A f k), gd_get]
theorem gd_get2 (k : κ) (x : D) : get2 (gD A f) (Datum.toD k) x = some (((glk A k).map f).getD x) := by
  show (if keyOk _ (keyN _) = true then _ else none) = _
  rw [gd_N, if_pos (gd_key A f k), gd_get]
theorem gd_ix (k : κ) : ixA (gD A f) (Datum.toD k) = (glk A k).map f := by
  show (if keyOk _ (keyN _) = true then _ else _) = _
  rw [gd_N, if_pos (gd_key A f k), gd_get]
theorem gd_in (k : κ) : inB (Datum.toD k) (gD A f) = some (glk A k).isSome := by
  show (if keyOk _ (keyN _) = true then _ else none) = _
  rw [gd_N, if_pos (gd_key A f k), gd_get, Option.isSome_map]
theorem gd_putP (k : κ) (v : β) (h : A.length ≤ 1000000) : putD (gD A f) (keyP (Datum.toD k)) (f v) = some (gD (gput A k v) f) := by
  show (if (_ ∧ keyOk _ (keyN _) = true) ∧ _ then some (PyData.dict (dputD (A.map fun p => (Datum.toD p.1, f p.2)) (keyN (keyP (Datum.toD k))) (f v))) else none) = _
  rw [(gd_P k).1, if_pos ⟨⟨(gd_P k).2, gd_key A f k⟩, by rw [List.length_map]; exact h⟩]
  have e : ∀ p : κ × β, PyData.eqv (Datum.toD p.1) (Datum.toD k) = decide (p.1 = k) := fun p => Datum.eqv _ _
  unfold dputD gput
  rw [List.any_map]
  have e2 : ((fun p : D × D => PyData.eqv p.1 (Datum.toD k)) ∘ fun p : κ × β => ((Datum.toD p.1 : D), f p.2)) = fun p => decide (p.1 = k) := by
    funext p
    exact e p
  rw [e2]
  by_cases hk : (A.any fun p => decide (p.1 = k)) = true
  · rw [if_pos hk, if_pos hk, List.map_map]
    refine congrArg (fun l => some (PyData.dict l)) ?_
    show _ = List.map _ (List.map _ A)
    rw [List.map_map]
    refine List.map_congr_left fun p _ => ?_
    show (if PyData.eqv (Datum.toD p.1) (Datum.toD k) = true then _ else _) = ((fun p : κ × β => ((Datum.toD p.1 : D), f p.2)) (if p.1 = k then (p.1, v) else p))
    rw [e p]
    by_cases h : p.1 = k
    · rw [if_pos (decide_eq_true h), if_pos h]
    · rw [if_neg (by simpa using h), if_neg h]
  · rw [if_neg hk, if_neg hk]
    refine congrArg (fun l => some (PyData.dict l)) ?_
    show _ = List.map _ (A ++ [(k, v)])
    rw [List.map_append]
    rfl
theorem gd_put (k : κ) (v : β) (h : A.length ≤ 1000000) (hk : ∀ k : κ, isKey (Datum.toD k) = true := by intro k; rfl) : putD (gD A f) (Datum.toD k) (f v) = some (gD (gput A k v) f) := by
  have := gd_putP A f k v h
  rw [(keyP_key (hk k)).1] at this
  exact this
theorem gd_itemsI {β : Type} (A : List (Int × β)) (f : β → D) (hz : A.length ≤ 16777216) : itemsA (gD A f) = some (A.map fun p => PyData.int p.1) := by
  show (if ((A.map fun p => (Datum.toD p.1, f p.2)).all fun p => keyZ p.1) = true ∧ (A.map fun p => ((Datum.toD p.1 : D), f p.2)).length ≤ 16777216 then some ((A.map fun p => ((Datum.toD p.1 : D), f p.2)).map (·.1)) else none).or (ktL (A.map fun p => ((Datum.toD p.1 : D), f p.2))) = _
  have h1 : ((A.map fun p => ((Datum.toD p.1 : D), f p.2)).all fun p => keyZ p.1) = true := by
    rw [List.all_map]
    exact List.all_eq_true.mpr fun p hp => rfl
  rw [if_pos ⟨h1, by rw [List.length_map]; exact hz⟩, List.map_map]
  rfl
theorem gd_itemsS {β : Type} (A : List (Str × β)) (f : β → D) (h : ∀ p ∈ A, p.1.length ≤ 16777216) (hz : A.length ≤ 16777216) : itemsA (gD A f) = some (A.map fun p => PyData.str p.1) := by
  show (if ((A.map fun p => (Datum.toD p.1, f p.2)).all fun p => keyZ p.1) = true ∧ (A.map fun p => ((Datum.toD p.1 : D), f p.2)).length ≤ 16777216 then some ((A.map fun p => ((Datum.toD p.1 : D), f p.2)).map (·.1)) else none).or (ktL (A.map fun p => ((Datum.toD p.1 : D), f p.2))) = _
  have h1 : ((A.map fun p => ((Datum.toD p.1 : D), f p.2)).all fun p => keyZ p.1) = true := by
    rw [List.all_map]
    refine List.all_eq_true.mpr fun p hp => ?_
    exact decide_eq_true (h p hp)
  rw [if_pos ⟨h1, by rw [List.length_map]; exact hz⟩, List.map_map]
  rfl
end
/-! ### lots: found[key] = found.get(key, ()) + (x,) -/
theorem uniq_snoc {α : Type} [DecidableEq α] [DatumOrd α] : ∀ (xs acc : List α) (x : α), uniq acc (xs ++ [x]) = if x ∈ uniq acc xs then uniq acc xs else uniq acc xs ++ [x]
  | [], acc, x => rfl
  | y :: xs, acc, x => by
    rw [List.cons_append]
    unfold uniq
    split
    · exact uniq_snoc xs acc x
    · exact uniq_snoc xs _ x
section
variable {κ α : Type} [DecidableEq κ] [DatumOrd κ] (key : α → κ)
def lots (xs : List α) : List (κ × List α) := (uniq [] (xs.map key)).map fun k => (k, xs.filter fun y => decide (key y = k))
theorem lots_keys (xs : List α) : (lots key xs).map (·.1) = uniq [] (xs.map key) := by
  unfold lots
  rw [List.map_map]
  exact List.map_id _
theorem lots_nodup (xs : List α) : ((lots key xs).map (·.1)).Nodup := by
  rw [lots_keys]
  exact uniq_nodup _ _ List.nodup_nil
theorem lots_get (xs : List α) (k : κ) : ((lots key xs).find? fun p => decide (p.1 = k)).map (·.2) = if k ∈ xs.map key then some (xs.filter fun y => decide (key y = k)) else none := by
  unfold lots
  rw [List.find?_map]
  have e : ((fun p : κ × List α => decide (p.1 = k)) ∘ fun k => (k, xs.filter fun y => decide (key y = k))) = fun j => decide (j = k) := rfl
  rw [e, Option.map_map]
  by_cases h : k ∈ xs.map key
  · rw [if_pos h]
    have h2 : k ∈ uniq [] (xs.map key) := (uniq_mem _ _ _).mpr (.inr h)
    obtain ⟨j, hj⟩ := Option.isSome_iff_exists.mp (List.find?_isSome (p := fun j => decide (j = k)).mpr ⟨k, h2, decide_eq_true rfl⟩)
    have e2 : j = k := of_decide_eq_true (List.find?_some (p := fun j => decide (j = k)) hj)
    rw [hj, e2]
    rfl
  · rw [if_neg h, List.find?_eq_none.mpr]
    · rfl
    · intro j hj e
      rw [of_decide_eq_true e, uniq_mem] at hj
      rcases hj with hj | hj
      · cases hj
      · exact h hj
theorem lots_snoc (xs : List α) (x : α) : (if ((lots key xs).any fun p => decide (p.1 = key x)) = true then (lots key xs).map (fun p => if p.1 = key x then (p.1, (xs.filter fun y => decide (key y = key x)) ++ [x]) else p) else lots key xs ++ [(key x, (xs.filter fun y => decide (key y = key x)) ++ [x])]) = lots key (xs ++ [x]) := by
  have ha : ((lots key xs).any fun p => decide (p.1 = key x)) = decide (key x ∈ uniq [] (xs.map key)) := by
    rw [← lots_keys, Bool.eq_iff_iff, List.any_eq_true, decide_eq_true_eq, List.mem_map]
    exact ⟨fun ⟨p, hp, e⟩ => ⟨p, hp, of_decide_eq_true e⟩, fun ⟨p, hp, e⟩ => ⟨p, hp, decide_eq_true e⟩⟩
  rw [ha]
  have hf : (xs ++ [x]).filter (fun y => decide (key y = key x)) = (xs.filter fun y => decide (key y = key x)) ++ [x] := by
    rw [List.filter_append, List.filter_cons_of_pos (by exact decide_eq_true rfl)]
    rfl
  have hg : ∀ k, k ≠ key x → (xs ++ [x]).filter (fun y => decide (key y = k)) = xs.filter fun y => decide (key y = k) := fun k hk => by
    rw [List.filter_append, List.filter_cons_of_neg (by simpa using fun e : key x = k => hk e.symm)]
    exact List.append_nil _
  have hu : uniq [] ((xs ++ [x]).map key) = if key x ∈ uniq [] (xs.map key) then uniq [] (xs.map key) else uniq [] (xs.map key) ++ [key x] := by
    rw [List.map_append]
    exact uniq_snoc _ _ _
  by_cases h : key x ∈ uniq [] (xs.map key)
  · rw [if_pos (decide_eq_true h)]
    unfold lots
    rw [hu, if_pos h, List.map_map]
    refine List.map_congr_left fun k _ => ?_
    show (if k = key x then _ else _) = _
    by_cases e : k = key x
    · subst e
      rw [if_pos rfl, hf]
    · rw [if_neg e, hg k e]
  · rw [if_neg (by simpa using h)]
    unfold lots
    rw [hu, if_neg h, List.map_append]
    congr 1
    · refine List.map_congr_left fun k hk => ?_
      rw [hg k fun e => h (e ▸ hk)]
    · show [(key x, _)] = [(key x, (xs ++ [x]).filter fun y => decide (key y = key x))]
      rw [hf]
theorem lots_glk (xs : List α) (k : κ) : glk (lots key xs) k = if k ∈ xs.map key then some (xs.filter fun y => decide (key y = k)) else none := lots_get key xs k
theorem lots_put (xs : List α) (x : α) : gput (lots key xs) (key x) ((glk (lots key xs) (key x)).getD [] ++ [x]) = lots key (xs ++ [x]) := by
  rw [← lots_snoc]
  have e : (glk (lots key xs) (key x)).getD [] = xs.filter fun y => decide (key y = key x) := by
    rw [lots_glk]
    split
    · rfl
    · rename_i h
      refine (List.filter_eq_nil_iff.mpr fun y hy e => ?_).symm
      exact h (of_decide_eq_true e ▸ List.mem_map_of_mem hy)
  rw [e]
  rfl
theorem lots_len (xs : List α) : (lots key xs).length ≤ xs.length := by
  unfold lots
  rw [List.length_map]
  have := uniq_len (xs.map key) []
  rw [List.length_nil, Nat.zero_add, List.length_map] at this
  exact this
/-- the lots by key, ascending: the same sets -/
theorem lots_perm (xs : List α) : ((lots key xs).map (·.2)).Perm ((sset (xs.map key)).map fun k => xs.filter fun y => decide (key y = k)) := by
  unfold lots sset
  rw [List.map_map]
  exact List.Perm.map _ (sortT_self_perm _).symm
theorem lots_fold (xs : List α) : xs.foldl (fun A x => gput A (key x) ((glk A (key x)).getD [] ++ [x])) [] = lots key xs := by
  have h : ∀ ys zs : List α, ys.foldl (fun A x => gput A (key x) ((glk A (key x)).getD [] ++ [x])) (lots key zs) = lots key (zs ++ ys) := by
    intro ys
    induction ys with
    | nil => intro zs; rw [List.append_nil]; rfl
    | cons y ys ih =>
      intro zs
      rw [List.foldl_cons, lots_put, ih, List.append_assoc]
      rfl
  exact h xs []
end
/-! ### comprehensions that draw from w -/
section
variable {α β : Type} {enc : α → D} {bnd : D → Env → Option Env} {vs : List Nat} {it : Env → Option (List D × Env)} {tt : Env → Option (Bool × Env)} {te : Env → Option (D × Env)} {ρ ρ1 : Env}
theorem lcE_ok (E : Nat → Env) (xs : List α) (i0 : Nat) (G : α → D → Prop) (hit : it ρ = some (xs.map enc, ρ1)) (h0 : wipeE ρ1 vs = E i0)
    (h : ∀ a ∈ xs, ∀ i, ∃ ρ1 b ρ2, bnd (enc a) (E i) = some ρ1 ∧ tt ρ1 = some (b, ρ2) ∧ (b = false → ∃ i', wipeE ρ2 vs = E i') ∧ (b = true → ∃ y ρ3, te ρ2 = some (y, ρ3) ∧ G a y ∧ ∃ i', wipeE ρ3 vs = E i')) :
    ∃ (ys : List (α × D)) (i' : Nat), lcE it vs bnd tt te ρ = some (.list (ys.map (·.2)), unwipe vs 0 ρ1 (E i')) ∧ (ys.map (·.1)).Sublist xs ∧ ∀ p ∈ ys, G p.1 p.2 := by
  obtain ⟨ys, ρ', e, s, g, i', rfl⟩ := lcE_sub (enc := enc) (bnd := bnd) (vs := vs) (tt := tt) (te := te) (fun ρ => ∃ i, ρ = E i) G xs (E i0) (fun a ha ρ ⟨i, hi⟩ => by
    subst hi
    exact h a ha i) ⟨i0, rfl⟩
  refine ⟨ys, i', ?_, s, g⟩
  rw [e_lcE, hit, Option.bind_some, h0, e]
  rfl
/-- all items stay -/
theorem lcE_okA (E : Nat → Env) (xs : List α) (i0 : Nat) (P : β → Prop) (ec : β → D) (hit : it ρ = some (xs.map enc, ρ1)) (h0 : wipeE ρ1 vs = E i0)
    (h : ∀ a ∈ xs, ∀ i, ∃ ρ1 b i' ρ3, bnd (enc a) (E i) = some ρ1 ∧ te ρ1 = some (ec b, ρ3) ∧ P b ∧ wipeE ρ3 vs = E i') :
    ∃ (bs : List β) (i' : Nat), lcE it vs bnd yesTE te ρ = some (.list (bs.map ec), unwipe vs 0 ρ1 (E i')) ∧ bs.length = xs.length ∧ ∀ b ∈ bs, P b := by
  have key : ∀ (xs : List α) (i : Nat), (∀ a ∈ xs, ∀ i, ∃ ρ1 b i' ρ3, bnd (enc a) (E i) = some ρ1 ∧ te ρ1 = some (ec b, ρ3) ∧ P b ∧ wipeE ρ3 vs = E i') → ∃ (bs : List β) (i' : Nat), lcFE bnd yesTE te vs (xs.map enc) (E i) = some (bs.map ec, E i') ∧ bs.length = xs.length ∧ ∀ b ∈ bs, P b := by
    intro xs
    induction xs with
    | nil => exact fun i _ => ⟨[], i, rfl, rfl, fun b hb => nomatch hb⟩
    | cons a xs ih =>
      intro i h
      obtain ⟨ρ1, b, i', ρ3, h1, h2, h3, h4⟩ := h a List.mem_cons_self i
      obtain ⟨bs, i2, e, l, p⟩ := ih i' fun b hb => h b (.tail _ hb)
      refine ⟨b :: bs, i2, ?_, congrArg (· + 1) l, fun c hc => ?_⟩
      · rw [List.map_cons, lcFE, h1, Option.bind_some, e_yesTE, Option.bind_some]
        show (te ρ1).bind _ = _
        rw [h2, Option.bind_some]
        show (lcFE bnd yesTE te vs (xs.map enc) (wipeE ρ3 vs)).bind _ = _
        rw [h4, e]
        rfl
      · rcases List.mem_cons.mp hc with rfl | hc
        · exact h3
        · exact p c hc
  obtain ⟨bs, i', e, l, p⟩ := key xs i0 h
  refine ⟨bs, i', ?_, l, p⟩
  rw [e_lcE, hit, Option.bind_some, h0, e]
  rfl
theorem choose_map {γ : Type} {ec : γ → β → D} {P : γ → β → Prop} : ∀ ys : List (γ × D), (∀ p ∈ ys, ∃ b, P p.1 b ∧ p.2 = ec p.1 b) → ∃ bs : List (γ × β), ys.map (·.1) = bs.map (·.1) ∧ ys.map (·.2) = bs.map (fun p => ec p.1 p.2) ∧ ∀ p ∈ bs, P p.1 p.2
  | [], _ => ⟨[], rfl, rfl, fun p hp => nomatch hp⟩
  | y :: ys, h => by
    obtain ⟨b, h1, h2⟩ := h y List.mem_cons_self
    obtain ⟨bs, e1, e2, p⟩ := choose_map ys fun q hq => h q (.tail _ hq)
    refine ⟨(y.1, b) :: bs, ?_, ?_, fun q hq => ?_⟩
    · rw [List.map_cons, List.map_cons, e1]
    · rw [List.map_cons, List.map_cons, e2, h2]
    · rcases List.mem_cons.mp hq with rfl | hq
      · exact h1
      · exact p q hq
end
theorem fw_gen {ρ : Env} {j : Nat} {kw : D → List D → Option (D × D)} {w v w' : D} {ds : List D} {ase : Env → Option (List D × Env)} (hj : var j ρ = some w) (ha : ase ρ = some (ds, ρ)) (e : kw w ds = some (v, w')) : fnW j kw ase ρ = some (v, ρ.set j (some w')) := by
  rw [e_fnW, hj, Option.bind_some, ha, Option.bind_some]
  show (var j ρ).bind _ = _
  rw [hj, Option.bind_some]
  show (kw w ds).bind _ = _
  rw [e]
  rfl
theorem v_rng2 (a b : Nat) (h : b ≤ 16777216) (hab : a ≤ b) : rngD [.int (a : Int), .int (b : Int)] = some ((List.range (b - a)).map fun (i : Nat) => PyData.int ((a + i : Nat) : Int)) := by
  show (if _ then some (rngL (a : Int) ((b : Int) - (a : Int)).toNat) else none) = _
  rw [if_pos (by omega)]
  have e : ((b : Int) - (a : Int)).toNat = b - a := by omega
  rw [e]
  rfl
theorem rng_1 {f : Env → Option D} {ρ : Env} {n : Nat} (hf : f ρ = some (.int (n : Int))) (h : n ≤ 16777216) : rng (acons f anil) ρ = some ((List.range n).map fun (i : Nat) => PyData.int (i : Int)) := by
  rw [e_rng, e_acons, hf, Option.bind_some, e_anil, Option.bind_some, Option.bind_some, v_rng1 n h]
theorem rng_2 {f g : Env → Option D} {ρ : Env} {a b : Nat} (hf : f ρ = some (.int (a : Int))) (hg : g ρ = some (.int (b : Int))) (h : b ≤ 16777216) (hab : a ≤ b) : rng (acons f (acons g anil)) ρ = some ((List.range (b - a)).map fun (i : Nat) => PyData.int ((a + i : Nat) : Int)) := by
  rw [e_rng, e_acons, hf, Option.bind_some, e_acons, hg, Option.bind_some, e_anil, Option.bind_some, Option.bind_some, Option.bind_some, v_rng2 a b h hab]
section
variable {α β : Type} {enc : α → D} {bnd : D → Env → Option Env} {tt : Env → Option Bool} {te : Env → Option D} {it : Env → Option (List D)} {vs : List Nat} {ρ : Env}
theorem lc_okAM (f : α → β) (h : β → D) (xs : List α) (hit : it ρ = some (xs.map enc)) (k : ∀ a ∈ xs, ∃ ρ1, bnd (enc a) (wipeE ρ vs) = some ρ1 ∧ tt ρ1 = some true ∧ te ρ1 = some (h (f a))) : lc it vs bnd tt te ρ = some (.list ((xs.map f).map h)) := by
  rw [lc_okA (fun a => h (f a)) xs hit k, List.map_map]
  rfl
theorem lc_okM (p : α → Bool) (f : α → β) (h : β → D) (xs : List α) (hit : it ρ = some (xs.map enc)) (k : ∀ a ∈ xs, ∃ ρ1, bnd (enc a) (wipeE ρ vs) = some ρ1 ∧ tt ρ1 = some (p a) ∧ (p a = true → te ρ1 = some (h (f a)))) : lc it vs bnd tt te ρ = some (.list (((xs.filter p).map f).map h)) := by
  rw [lc_ok p (fun a => h (f a)) xs hit k, List.map_map]
  rfl
end
/-! ### loops that look -/
theorem Ok.forI {α : Type} {enc : α → D} {bnd : D → Env → Option Env} {body : Env → Option (Fl × Env)} {ρ : Env} {it : Env → Option (List D)} (I : Env → Prop) (xs : List α) (hit : it ρ = some (xs.map enc))
    (h : ∀ a ∈ xs, ∀ ρ, I ρ → ∃ ρ1, bnd (enc a) ρ = some ρ1 ∧ Ok body ρ1 fun fl ρ2 => fl = .nx ∧ I ρ2) (hi : I ρ) :
    Ok (PL.forS it bnd body) ρ fun fl ρ' => fl = .nx ∧ I ρ' :=
  Ok.forSi (enc := enc) (fun _ ρ => I ρ) xs hit (fun i a ha ρ hr => h a (List.mem_of_getElem? ha) ρ hr) hi
theorem v_dictC {κ β : Type} [DecidableEq κ] [Datum κ] (A : List (κ × β)) (f : β → D) (h : ∀ k : κ, isKey (Datum.toD k) = true) : dictD [gD A f] = some (gD A f) := by
  show (if ((A.map fun p => ((Datum.toD p.1 : D), f p.2)).all fun p => isKey p.1) = true then _ else none) = _
  rw [if_pos]
  rw [List.all_map]
  exact List.all_eq_true.mpr fun p _ => h p.1
theorem dD_dict {β : Type} (C : List (List Nat × β)) (f : β → D) : dictD [dD C f] = some (dD C f) := by
  show (if ((C.map fun p => ((tD p.1 : D), f p.2)).all fun p => isKey p.1) = true then _ else none) = _
  rw [if_pos]
  rw [List.all_map]
  exact List.all_eq_true.mpr fun p _ => rfl
theorem gput_map {κ κ' β : Type} [DecidableEq κ] [DecidableEq κ'] (e : κ → κ') (he : ∀ a b, e a = e b ↔ a = b) (A : List (κ × β)) (k : κ) (v : β) : gput (A.map fun p => (e p.1, p.2)) (e k) v = (gput A k v).map fun p => (e p.1, p.2) := by
  unfold gput
  rw [List.any_map]
  have e2 : ((fun p : κ' × β => decide (p.1 = e k)) ∘ fun p : κ × β => (e p.1, p.2)) = fun p => decide (p.1 = k) := by
    funext p
    exact decide_eq_decide.mpr (he _ _)
  rw [e2]
  split
  · rw [List.map_map, List.map_map]
    refine List.map_congr_left fun p _ => ?_
    show (if e p.1 = e k then _ else _) = (fun p : κ × β => (e p.1, p.2)) (if p.1 = k then (p.1, v) else p)
    by_cases h : p.1 = k
    · rw [if_pos ((he _ _).mpr h), if_pos h]
    · rw [if_neg fun q => h ((he _ _).mp q), if_neg h]
  · rw [List.map_append]
    rfl
theorem dD_put {β : Type} (A : List (List Nat × β)) (f : β → D) (k : List Nat) (v : β) (h : A.length ≤ 1000000) : putD (dD A f) (tD k) (f v) = some (dD (gput A k v) f) := by
  have q := gd_put (A.map fun p => (tx p.1, p.2)) f (tx k) v (by rw [List.length_map]; exact h)
  rw [gput_map tx (fun a b => tx_inj) A k v] at q
  unfold gD at q
  rw [List.map_map, List.map_map] at q
  exact q
theorem gput_new {κ β : Type} [DecidableEq κ] {A : List (κ × β)} {k : κ} {v : β} (h : k ∉ A.map (·.1)) : gput A k v = A ++ [(k, v)] := by
  unfold gput
  rw [if_neg]
  intro e
  obtain ⟨p, hp, e⟩ := List.any_eq_true.mp e
  exact h (of_decide_eq_true e ▸ List.mem_map_of_mem hp)
theorem gput_last {κ β : Type} [DecidableEq κ] {A : List (κ × β)} {k : κ} {u v : β} (h : k ∉ A.map (·.1)) : gput (A ++ [(k, u)]) k v = A ++ [(k, v)] := by
  unfold gput
  rw [if_pos (List.any_eq_true.mpr ⟨(k, u), by simp, decide_eq_true rfl⟩), List.map_append]
  congr 1
  · refine (List.map_congr_left fun p hp => ?_).trans (List.map_id _)
    rw [if_neg fun e : p.1 = k => h (e ▸ List.mem_map_of_mem hp)]
    rfl
  · show [if k = k then (k, v) else (k, u)] = _
    rw [if_pos rfl]
theorem lk_last {β : Type} {A : List (List Nat × β)} {k : List Nat} {v : β} (h : k ∉ A.map (·.1)) : lk (A ++ [(k, v)]) k = some v := by
  unfold lk
  have e1 : A.find? (fun p => decide (p.1 = k)) = none := List.find?_eq_none.mpr fun p hp e => by
    have e : p.1 = k := of_decide_eq_true e
    exact h (e ▸ List.mem_map_of_mem hp)
  rw [List.find?_append, e1]
  simp
/-! ### what is the same -/
theorem sm_T {α : Type} [DecidableEq α] [Datum α] {n : Nat} (h : ∀ a : α, smD n (Datum.toD a)) (xs : List α) (hz : xs.length ≤ 16777216) : smD (n + 1) (.tuple (xs.map Datum.toD)) := ⟨by rw [List.length_map]; exact hz, fun d hd => by
  obtain ⟨a, _, rfl⟩ := List.mem_map.mp hd
  exact h a⟩
theorem sm_M {α : Type} {enc : α → D} {n : Nat} (xs : List α) (h : ∀ a ∈ xs, smD n (enc a)) (hz : xs.length ≤ 16777216) : smD (n + 1) (.tuple (xs.map enc)) := ⟨by rw [List.length_map]; exact hz, fun d hd => by
  obtain ⟨a, ha, rfl⟩ := List.mem_map.mp hd
  exact h a ha⟩
theorem sm_2 {n : Nat} {a b : D} (h1 : smD n a) (h2 : smD n b) : smD (n + 1) (.tuple [a, b]) := ⟨by simp, fun d hd => by
  rcases List.mem_cons.mp hd with rfl | hd
  · exact h1
  · rw [List.mem_singleton.mp hd]; exact h2⟩
theorem sm_3 {n : Nat} {a b c : D} (h1 : smD n a) (h2 : smD n b) (h3 : smD n c) : smD (n + 1) (.tuple [a, b, c]) := ⟨by simp, fun d hd => by
  rcases List.mem_cons.mp hd with rfl | hd
  · exact h1
  · rcases List.mem_cons.mp hd with rfl | hd
    · exact h2
    · rw [List.mem_singleton.mp hd]; exact h3⟩
/-! ### all, join -/
theorem q_bools : ∀ bs : List Bool, boolsD (bs.map .bool) = some bs
  | [] => rfl
  | b :: bs => by
    show (boolsD (bs.map .bool)).map (b :: ·) = _
    rw [q_bools bs]
    rfl
theorem q_all (bs : List Bool) : allD [.list (bs.map .bool)] = some (.bool (bs.all id)) := by
  show (boolsD _).map _ = _
  rw [q_bools]
  rfl
theorem q_any (bs : List Bool) : anyD [.list (bs.map .bool)] = some (.bool (bs.any id)) := by
  show (boolsD _).map _ = _
  rw [q_bools]
  rfl
theorem q_ints : ∀ bs : List Int, intsD (bs.map .int) = some bs
  | [] => rfl
  | b :: bs => by
    show (intsD (bs.map .int)).map (b :: ·) = _
    rw [q_ints bs]
    rfl
theorem q_sum (bs : List Int) : sumD [.list (bs.map .int)] = some (.int bs.sum) := by
  show (intsD _).map _ = _
  rw [q_ints]
  rfl
theorem q_strs : ∀ bs : List Str, strsD (bs.map .str) = some bs
  | [] => rfl
  | b :: bs => by
    show (strsD (bs.map .str)).map (b :: ·) = _
    rw [q_strs bs]
    rfl
theorem glue_tx : ∀ (ls : List (List Nat)) (a : List Nat), (ls.map tx).foldl (fun acc p => acc ++ (tx []).cps ++ p.cps) a.toArray = (a ++ ls.flatten).toArray
  | [], a => by rw [List.flatten_nil, List.append_nil]; rfl
  | l :: ls, a => by
    have e : a.toArray ++ (tx []).cps ++ (tx l).cps = (a ++ l).toArray := by
      show a.toArray ++ #[] ++ l.toArray = _
      rw [Array.append_empty, List.append_toArray]
    rw [List.map_cons, List.foldl_cons, e, glue_tx ls (a ++ l), List.flatten_cons, List.append_assoc]
theorem join_tx : ∀ ls : List (List Nat), Txt.join (tx []) (ls.map tx) = tx ls.flatten
  | [] => rfl
  | l :: ls => by
    show (⟨(ls.map tx).foldl (fun acc p => acc ++ (tx []).cps ++ p.cps) l.toArray⟩ : Str) = _
    rw [glue_tx]
    rfl
theorem sum_len : ∀ ls : List (List Nat), ((ls.map tx).map (·.length)).sum = ls.flatten.length
  | [] => rfl
  | l :: ls => by
    rw [List.map_cons, List.map_cons, List.sum_cons, sum_len ls, tx_len, List.flatten_cons, List.length_append]
/-- "".join of texts -/
theorem t_join (ls : List (List Nat)) (h : ls.flatten.length ≤ 16777216) : joinD (.str "") (.list (ls.map tD)) = some (tD ls.flatten) := by
  have e : ls.map tD = (ls.map tx).map PyData.str := by rw [List.map_map]; rfl
  rw [e]
  show (strsD _).bind _ = _
  rw [q_strs, Option.bind_some]
  show (if ((ls.map tx).map (·.length)).sum + (ls.map tx).length * (tx []).length ≤ 16777216 ∧ (Txt.join (tx []) (ls.map tx)).length ≤ 16777216 then some (PyData.str (Txt.join (tx []) (ls.map tx))) else none) = _
  rw [join_tx, sum_len, tx_len, tx_len, if_pos ⟨by simpa using h, h⟩]
/-! ### letters -/
theorem t_lt (a b : List Nat) : DatumOrd.lt (tx a) (tx b) = decide (a < b) := rfl
theorem lt_one (a b : Nat) : ([a] < [b]) ↔ a < b := by
  constructor
  · intro h
    cases h with
    | rel h => exact h
    | cons h => cases h
  · exact fun h => .rel h
theorem v_leS (a b : Str) : leB (.str a) (.str b) = some (!DatumOrd.lt b a) := by
  show (if (alike (.str a) (.str b) && true && true && true) = true then some (!dataLt (.str b) (.str a)) else none) = _
  rw [show alike (.str a) (.str b) = true from DatumOrd.alike (α := Str) a b, show dataLt (.str b) (.str a) = DatumOrd.lt b a from DatumOrd.lt_eq (α := Str) b a]
  rfl
theorem v_ltS (a b : Str) : ltB (.str a) (.str b) = some (DatumOrd.lt a b) := by
  show (if (alike (.str a) (.str b) && true && true && true) = true then some (dataLt (.str a) (.str b)) else none) = _
  rw [show alike (.str a) (.str b) = true from DatumOrd.alike (α := Str) a b, show dataLt (.str a) (.str b) = DatumOrd.lt a b from DatumOrd.lt_eq (α := Str) a b]
  rfl
theorem t_le1 (a b : Nat) : leB (tD [a]) (tD [b]) = some (decide (a ≤ b)) := by
  rw [v_leS, t_lt, ← decide_not]
  refine congrArg some (decide_eq_decide.mpr ?_)
  rw [lt_one]
  omega
end PL

set_option Elab.async false
set_option linter.all false
set_option maxRecDepth 100000
namespace PL
open PySem PySem.Spec PyProof.Rows L2 PySem.W

/-! ### loops with ways out -/
section
variable {α : Type} {enc : α → D} {bnd : D → Env → Option Env} {body : Env → Option (Fl × Env)} {ρ : Env} {c : Env → Option Bool} {it : Env → Option (List D)}
theorem Ok.forXi (I : Nat → Env → Prop) (B : Env → Prop) (R : D → Env → Prop) : ∀ (xs : List α) (n : Nat) (ρ : Env), (∀ i a, xs[i]? = some a → ∀ ρ, I (n + i) ρ → ∃ ρ1, bnd (enc a) ρ = some ρ1 ∧ Ok body ρ1 fun fl ρ2 => (fl = .nx ∧ I (n + i + 1) ρ2) ∨ (fl = .cont ∧ I (n + i + 1) ρ2) ∨ (fl = .brk ∧ B ρ2) ∨ ∃ v, fl = .ret v ∧ R v ρ2) → I n ρ →
    Ok (PL.forF bnd body (xs.map enc)) ρ fun fl ρ' => (fl = .nx ∧ (I (n + xs.length) ρ' ∨ B ρ')) ∨ ∃ v, fl = .ret v ∧ R v ρ'
  | [], n, ρ, _, hi => ⟨_, ρ, rfl, .inl ⟨rfl, .inl hi⟩⟩
  | a :: xs, n, ρ, h, hi => by
    obtain ⟨ρ1, e1, fl, ρ2, e2, k⟩ := h 0 a rfl ρ hi
    have go : ∀ q : (fl = .nx ∨ fl = .cont) ∧ I (n + 0 + 1) ρ2, Ok (PL.forF bnd body ((a :: xs).map enc)) ρ fun fl ρ' => (fl = .nx ∧ (I (n + (a :: xs).length) ρ' ∨ B ρ')) ∨ ∃ v, fl = .ret v ∧ R v ρ' := fun ⟨q, i2⟩ => by
      obtain ⟨fl', ρ', e, r⟩ := Ok.forXi I B R xs (n + 1) ρ2 (fun i b hb ρ hr => by
        have e : n + 1 + i = n + (i + 1) := by omega
        rw [e] at hr ⊢
        exact h (i + 1) b (by rw [List.getElem?_cons_succ]; exact hb) ρ hr) i2
      have e3 : n + (a :: xs).length = n + 1 + xs.length := by rw [List.length_cons]; omega
      rw [e3]
      refine ⟨fl', ρ', ?_, r⟩
      rw [List.map_cons, PL.forF, e1, Option.bind_some, e2, Option.bind_some]
      rcases q with rfl | rfl <;> exact e
    rcases k with ⟨rfl, k⟩ | ⟨rfl, k⟩ | ⟨rfl, k⟩ | ⟨v, rfl, k⟩
    · exact go ⟨.inl rfl, k⟩
    · exact go ⟨.inr rfl, k⟩
    · refine ⟨.nx, ρ2, ?_, .inl ⟨rfl, .inr k⟩⟩
      rw [List.map_cons, PL.forF, e1, Option.bind_some, e2]
      rfl
    · refine ⟨.ret v, ρ2, ?_, .inr ⟨v, rfl, k⟩⟩
      rw [List.map_cons, PL.forF, e1, Option.bind_some, e2]
      rfl
theorem Ok.forX (I : Nat → Env → Prop) (B : Env → Prop) (R : D → Env → Prop) (xs : List α) (hit : it ρ = some (xs.map enc))
    (h : ∀ i a, xs[i]? = some a → ∀ ρ, I i ρ → ∃ ρ1, bnd (enc a) ρ = some ρ1 ∧ Ok body ρ1 fun fl ρ2 => (fl = .nx ∧ I (i + 1) ρ2) ∨ (fl = .cont ∧ I (i + 1) ρ2) ∨ (fl = .brk ∧ B ρ2) ∨ ∃ v, fl = .ret v ∧ R v ρ2) (hi : I 0 ρ) :
    Ok (PL.forS it bnd body) ρ fun fl ρ' => (fl = .nx ∧ (I xs.length ρ' ∨ B ρ')) ∨ ∃ v, fl = .ret v ∧ R v ρ' := by
  obtain ⟨fl, ρ', e, p⟩ := Ok.forXi (enc := enc) (bnd := bnd) (body := body) I B R xs 0 ρ (fun i a ha ρ hr => by rw [Nat.zero_add] at hr ⊢; exact h i a ha ρ hr) hi
  rw [Nat.zero_add] at p
  exact ⟨fl, ρ', by rw [e_forS, hit]; exact e, p⟩
theorem Ok.wh (I : Nat → Env → Prop) (Q : Env → Prop) (R : D → Env → Prop)
    (h : ∀ n ρ, I n ρ → (c ρ = some false ∧ Q ρ) ∨ (c ρ = some true ∧ Ok body ρ fun fl ρ2 => (fl = .nx ∧ ∃ m, m < n ∧ I m ρ2) ∨ (fl = .brk ∧ Q ρ2) ∨ ∃ v, fl = .ret v ∧ R v ρ2)) :
    ∀ (fuel n : Nat) (ρ : Env), n < fuel → I n ρ → Ok (whileF c body fuel) ρ fun fl ρ' => (fl = .nx ∧ Q ρ') ∨ ∃ v, fl = .ret v ∧ R v ρ'
  | 0, n, ρ, hl, _ => absurd hl (Nat.not_lt_zero _)
  | f + 1, n, ρ, hl, hi => by
    rcases h n ρ hi with ⟨h1, h2⟩ | ⟨h1, fl, ρ2, e, k⟩
    · refine ⟨.nx, ρ, ?_, .inl ⟨rfl, h2⟩⟩
      rw [whileF, h1]
      rfl
    · rcases k with ⟨rfl, m, hm, k⟩ | ⟨rfl, k⟩ | ⟨v, rfl, k⟩
      · obtain ⟨fl', ρ', e', p⟩ := Ok.wh I Q R h f m ρ2 (by omega) k
        refine ⟨fl', ρ', ?_, p⟩
        rw [whileF, h1]
        show (body ρ).bind _ = _
        rw [e]
        exact e'
      · refine ⟨.nx, ρ2, ?_, .inl ⟨rfl, k⟩⟩
        rw [whileF, h1]
        show (body ρ).bind _ = _
        rw [e]
        rfl
      · refine ⟨.ret v, ρ2, ?_, .inr ⟨v, rfl, k⟩⟩
        rw [whileF, h1]
        show (body ρ).bind _ = _
        rw [e]
        rfl
/-- a while without ways out -/
theorem Ok.wh1 (I : Nat → Env → Prop) (Q : Env → Prop)
    (h : ∀ n ρ, I n ρ → (c ρ = some false ∧ Q ρ) ∨ (c ρ = some true ∧ Ok body ρ fun fl ρ2 => fl = .nx ∧ ∃ m, m < n ∧ I m ρ2)) {fuel n : Nat} (hl : n < fuel) (hi : I n ρ) : Ok (whileF c body fuel) ρ fun fl ρ' => fl = .nx ∧ Q ρ' :=
  Ok.mono (Ok.wh I Q (fun _ _ => False) (fun n ρ hi => (h n ρ hi).imp id fun ⟨h1, k⟩ => ⟨h1, Ok.mono k fun fl ρ2 q => .inl q⟩) fuel n ρ hl hi) fun fl ρ' q => q.elim id fun ⟨_, _, f⟩ => f.elim
end
theorem bk {s s2 : Env → Option (Fl × Env)} {ρ ρ1 : Env} (h : s ρ = some (.brk, ρ1)) : seqS s s2 ρ = some (.brk, ρ1) := by
  unfold seqS
  rw [h]
  rfl
/-- what may go on or end -/
theorem Ok.seqX {s s2 : Env → Option (Fl × Env)} {ρ : Env} {P : Fl → Env → Prop} {I : Env → Prop} {R : D → Env → Prop} (h : Ok s ρ fun fl ρ1 => (fl = .nx ∧ I ρ1) ∨ ∃ v, fl = .ret v ∧ R v ρ1) (k : ∀ ρ1, I ρ1 → Ok s2 ρ1 P) (r : ∀ v ρ1, R v ρ1 → P (.ret v) ρ1) : Ok (seqS s s2) ρ P := by
  obtain ⟨fl, ρ1, e, q⟩ := h
  rcases q with ⟨rfl, i⟩ | ⟨v, rfl, q⟩
  · exact Ok.nx e (k ρ1 i)
  · exact ⟨_, _, PL.rt e, r v ρ1 q⟩
/-! ### two loops in a comprehension -/
section
variable {α β : Type} {enc : α → D} {enc2 : β → D} {bnd bnd1 : D → Env → Option Env} {tt tt1 : Env → Option Bool} {te : Env → Option D} {it it1 : Env → Option (List D)} {vs vs1 : List Nat} {ρ : Env}
theorem lc2_ok (p1 : α → Bool) (ys : α → List β) (p2 : α → β → Bool) (g : α → β → D) (xs : List α) (hit : it ρ = some (xs.map enc))
    (h : ∀ a ∈ xs, ∃ ρ1, bnd (enc a) (wipeE ρ vs) = some ρ1 ∧ tt ρ1 = some (p1 a) ∧ (p1 a = true → it1 ρ1 = some ((ys a).map enc2) ∧ ∀ b ∈ ys a, ∃ ρ2, bnd1 (enc2 b) (wipeE ρ1 vs1) = some ρ2 ∧ tt1 ρ2 = some (p2 a b) ∧ (p2 a b = true → te ρ2 = some (g a b))))
    (hz : ((xs.filter p1).flatMap fun a => ((ys a).filter (p2 a)).map (g a)).length ≤ 16777216) :
    lc2 it vs bnd tt it1 vs1 bnd1 tt1 te ρ = some (.list ((xs.filter p1).flatMap fun a => ((ys a).filter (p2 a)).map (g a))) := by
  have key : ∀ xs : List α, (∀ a ∈ xs, ∃ ρ1, bnd (enc a) (wipeE ρ vs) = some ρ1 ∧ tt ρ1 = some (p1 a) ∧ (p1 a = true → it1 ρ1 = some ((ys a).map enc2) ∧ ∀ b ∈ ys a, ∃ ρ2, bnd1 (enc2 b) (wipeE ρ1 vs1) = some ρ2 ∧ tt1 ρ2 = some (p2 a b) ∧ (p2 a b = true → te ρ2 = some (g a b)))) → lc2F bnd tt it1 vs1 bnd1 tt1 te (wipeE ρ vs) (xs.map enc) = some ((xs.filter p1).flatMap fun a => ((ys a).filter (p2 a)).map (g a)) := by
    intro xs
    induction xs with
    | nil => intro _; rfl
    | cons a xs ih =>
      intro h
      obtain ⟨ρ1, h1, h2, h3⟩ := h a List.mem_cons_self
      have ih := ih fun b hb => h b (.tail _ hb)
      rw [List.map_cons, lc2F, h1, Option.bind_some, h2, Option.bind_some]
      cases hp : p1 a with
      | true =>
        obtain ⟨h4, h5⟩ := h3 hp
        show (it1 ρ1).bind _ = _
        rw [h4, Option.bind_some, lc_map (p2 a) (g a) (ys a) h5, Option.bind_some, ih, Option.bind_some, List.filter_cons_of_pos hp, List.flatMap_cons]
      | false =>
        rw [List.filter_cons_of_neg (by rw [hp]; exact Bool.false_ne_true)]
        exact ih
  show ((it ρ).bind fun ds => (lc2F bnd tt it1 vs1 bnd1 tt1 te (wipeE ρ vs) ds).bind szD) = _
  rw [hit, Option.bind_some, key xs h, Option.bind_some]
  unfold szD
  rw [if_pos hz]
end
theorem flatMap_len {α β : Type} {f : α → List β} {c : Nat} : ∀ xs : List α, (∀ a ∈ xs, (f a).length ≤ c) → (xs.flatMap f).length ≤ c * xs.length
  | [], _ => by simp
  | a :: xs, h => by
    have h1 := h a List.mem_cons_self
    have h2 := flatMap_len xs fun b hb => h b (.tail _ hb)
    rw [List.flatMap_cons, List.length_append, List.length_cons, Nat.mul_add]
    omega
section
variable {α β γ : Type} {enc : α → D} {enc2 : β → D} {bnd bnd1 : D → Env → Option Env} {te : Env → Option D} {it it1 : Env → Option (List D)} {vs vs1 : List Nat} {ρ : Env}
theorem lc2_okM (ys : α → List β) (f : α → β → γ) (h : γ → D) (xs : List α) (hit : it ρ = some (xs.map enc))
    (k : ∀ a ∈ xs, ∃ ρ1, bnd (enc a) (wipeE ρ vs) = some ρ1 ∧ it1 ρ1 = some ((ys a).map enc2) ∧ ∀ b ∈ ys a, ∃ ρ2, bnd1 (enc2 b) (wipeE ρ1 vs1) = some ρ2 ∧ te ρ2 = some (h (f a b)))
    (hz : (xs.flatMap fun a => (ys a).map (f a)).length ≤ 16777216) :
    lc2 it vs bnd yesT it1 vs1 bnd1 yesT te ρ = some (.list ((xs.flatMap fun a => (ys a).map (f a)).map h)) := by
  have e : ((xs.filter fun _ => true).flatMap fun a => ((ys a).filter ((fun _ _ => true) a)).map fun b => h (f a b)) = (xs.flatMap fun a => (ys a).map (f a)).map h := by
    rw [List.map_flatMap, List.filter_eq_self.mpr fun _ _ => rfl]
    refine congrArg (fun g => List.flatMap g xs) (funext fun a => ?_)
    rw [List.filter_eq_self.mpr fun _ _ => rfl, List.map_map]
    rfl
  rw [← e]
  refine lc2_ok (enc := enc) (enc2 := enc2) (fun _ => true) ys (fun _ _ => true) (fun a b => h (f a b)) xs hit (fun a ha => ?_) (by rw [e, List.length_map]; exact hz)
  obtain ⟨ρ1, h1, h2, h3⟩ := k a ha
  refine ⟨ρ1, h1, rfl, fun _ => ⟨h2, fun b hb => ?_⟩⟩
  obtain ⟨ρ2, h4, h5⟩ := h3 b hb
  exact ⟨ρ2, h4, rfl, fun _ => h5⟩
end
/-! ### sets of texts -/
def tset (ls : List (List Nat)) : List (List Nat) := (sset (ls.map tx)).map (·.cps.toList)
theorem tset_tx (ls : List (List Nat)) : sset (ls.map tx) = (tset ls).map tx := by
  unfold tset
  rw [List.map_map]
  exact ((List.map_congr_left fun z _ => (tx_of z).symm).trans (List.map_id _)).symm
theorem tset_mem {ls : List (List Nat)} {l : List Nat} : l ∈ tset ls ↔ l ∈ ls := by
  unfold tset
  rw [List.mem_map]
  constructor
  · rintro ⟨z, hz, rfl⟩
    obtain ⟨m, hm, rfl⟩ := List.mem_map.mp (sset_mem.mp hz)
    rw [tx_cps]
    exact hm
  · intro h
    exact ⟨tx l, sset_mem.mpr (List.mem_map_of_mem h), tx_cps l⟩
theorem tset_length (ls : List (List Nat)) : (tset ls).length ≤ ls.length := by
  unfold tset
  rw [List.length_map]
  have := sset_length (ls.map tx)
  rw [List.length_map] at this
  exact this
theorem leT_tx {a b : List Nat} : leT (tx a) (tx b) = true ↔ ¬ b < a := by
  rw [leT_lt, t_lt, Bool.not_eq_true', decide_eq_false_iff_not]
theorem l_tri : ∀ a b : List Nat, a < b ∨ a = b ∨ b < a
  | [], [] => .inr (.inl rfl)
  | [], _ :: _ => .inl .nil
  | _ :: _, [] => .inr (.inr .nil)
  | x :: xs, y :: ys => by
    rcases Nat.lt_trichotomy x y with h | h | h
    · exact .inl (.rel h)
    · subst h
      rcases l_tri xs ys with h | h | h
      · exact .inl (.cons h)
      · exact .inr (.inl (by rw [h]))
      · exact .inr (.inr (.cons h))
    · exact .inr (.inr (.rel h))
theorem tlt_of {a b : List Nat} (h : ¬ b < a) (n : a ≠ b) : a < b := by
  rcases l_tri a b with h1 | h1 | h1
  · exact h1
  · exact absurd h1 n
  · exact absurd h1 h
theorem tset_sorted (ls : List (List Nat)) : (tset ls).Pairwise (· < ·) := by
  have h1 := sset_sorted (ls.map tx)
  have h2 := sset_nodup (ls.map tx)
  rw [tset_tx] at h1 h2
  rw [List.pairwise_map] at h1
  have h2' : (tset ls).Pairwise fun a b => tx a ≠ tx b := List.pairwise_map.mp h2
  exact (h1.and h2').imp fun ⟨q1, q2⟩ => tlt_of (leT_tx.mp q1) fun e => q2 (e ▸ rfl)
/-- an ascending list is told by its members -/
theorem asc_ext {xs ys : List (List Nat)} (hx : xs.Pairwise (· < ·)) (hy : ys.Pairwise (· < ·)) (h : ∀ a, a ∈ xs ↔ a ∈ ys) : xs = ys := by
  have nx : xs.Nodup := hx.imp fun q e => by rw [e] at q; exact absurd q (List.lt_irrefl _)
  have ny : ys.Nodup := hy.imp fun q e => by rw [e] at q; exact absurd q (List.lt_irrefl _)
  refine List.Perm.eq_of_pairwise (le := (· < ·)) (fun a b _ _ h1 h2 => absurd (List.lt_trans h1 h2) (List.lt_irrefl _)) hx hy ((List.perm_ext_iff_of_nodup nx ny).mpr h)
theorem tset_ext {xs ys : List (List Nat)} (h : ∀ a, a ∈ xs ↔ a ∈ ys) : tset xs = tset ys := asc_ext (tset_sorted _) (tset_sorted _) fun a => by rw [tset_mem, tset_mem, h]
theorem tset_id {xs : List (List Nat)} (h : xs.Pairwise (· < ·)) : tset xs = xs := asc_ext (tset_sorted _) h fun a => tset_mem
theorem t_ssetL (ls : List (List Nat)) (h : ∀ l ∈ ls, l.length ≤ 16777216) (hz : ls.length ≤ 4000) : sortSetD (.list (ls.map tD)) = some (.list ((tset ls).map tD)) := by
  have q := v_ssetL (ls.map tx) (fun x hx => by
    obtain ⟨l, hl, rfl⟩ := List.mem_map.mp hx
    rw [tx_len]
    exact h l hl) (by rw [List.length_map]; exact hz)
  rw [tset_tx, List.map_map, List.map_map] at q
  exact q
theorem t_lset (ls : List (List Nat)) (h : ∀ l ∈ ls, l.length ≤ 16777216) (hz : ls.length ≤ 4000) : lenSetD (.list (ls.map tD)) = some (.int ((tset ls).length : Nat)) := by
  have q := v_lset (ls.map tx) (fun x hx => by
    obtain ⟨l, hl, rfl⟩ := List.mem_map.mp hx
    rw [tx_len]
    exact h l hl) (by rw [List.length_map]; exact hz)
  rw [List.map_map] at q
  have e : (uniq [] (ls.map tx)).length = (tset ls).length := by
    unfold tset sset
    rw [List.length_map, sortT_length]
  rw [e] at q
  exact q
theorem in_list (l : List Nat) (K : List (List Nat)) : inB (tD l) (.list (K.map tD)) = some (decide (l ∈ K)) := by
  have e : (K.map tx).map (Datum.toD (α := Str)) = K.map tD := by rw [List.map_map]; rfl
  have hp : okD (.list (K.map tD)) = true := by
    rw [← e]
    exact okD_map (α := List Str) (by decide) (K.map tx)
  show (if (okD (tD l) && okD (.list (K.map tD))) = true then some ((K.map tD).any fun y => PyData.eqv y (tD l)) else none) = _
  rw [if_pos (by rw [hp]; rfl), ← e]
  show some (((K.map tx).map Datum.toD).any fun d => PyData.eqv d (Datum.toD (tx l))) = _
  rw [any_datum (α := Str)]
  refine congrArg some (decide_eq_decide.mpr ?_)
  rw [List.mem_map]
  exact ⟨fun ⟨a, ha, e⟩ => tx_inj.mp e ▸ ha, fun h => ⟨l, h, rfl⟩⟩
theorem t_ltB (a b : List Nat) : ltB (tD a) (tD b) = some (decide (a < b)) := by rw [v_ltS, t_lt]
/-- range(n, -1, -1) -/
theorem rng3_down {as : Env → Option (List D)} {ρ : Env} {n : Nat} (h : as ρ = some [.int (n : Int), .int (-1), .int (-1)]) (hn : n ≤ 1000000) : rng3 as ρ = some ((List.range (n + 1)).map fun (i : Nat) => PyData.int ((n : Int) - (i : Int))) := by
  show (as ρ).bind rngD3 = _
  rw [h, Option.bind_some]
  show (if _ then some ((List.range ((n : Int) - -1).toNat).map fun (i : Nat) => PyData.int ((n : Int) - (i : Int))) else none) = _
  rw [if_pos (by omega)]
  have e : ((n : Int) - -1).toNat = n + 1 := by omega
  rw [e]
end PL

set_option Elab.async false
set_option linter.all false
set_option maxRecDepth 100000
namespace PL
open PySem PySem.Spec PyProof.Rows L2 PySem.W

/-! ### data with a Lean type, no order asked -/
section
variable {α : Type} [DecidableEq α] [Datum α]
theorem okD_dat (hd : Datum.depth α ≤ 60) (a : α) : okD (Datum.toD a) = true := by
  unfold okD
  rw [Datum.plain, decide_eq_true (Nat.le_trans (Datum.depth_le a) hd)]
  rfl
theorem eq_dat (hd : Datum.depth α ≤ 60) (a b : α) : eqB (Datum.toD a) (Datum.toD b) = some (decide (a = b)) := by
  unfold eqB
  rw [okD_dat hd, okD_dat hd, Datum.eqv]
  rfl
theorem ne_dat (hd : Datum.depth α ≤ 60) (a b : α) : neB (Datum.toD a) (Datum.toD b) = some (!decide (a = b)) := by
  unfold neB
  rw [okD_dat hd, okD_dat hd, Datum.eqv]
  rfl
theorem in_datT (hd : Datum.depth α ≤ 50) (x : α) (xs : List α) : inB (Datum.toD x) (.tuple (xs.map Datum.toD)) = some (decide (x ∈ xs)) := by
  have h2 : okD (.tuple (xs.map Datum.toD)) = true := okD_dat (α := Tup α) (by show Datum.depth α + 1 ≤ 60; omega) ⟨xs⟩
  show (if (okD (Datum.toD x) && okD (.tuple (xs.map Datum.toD))) = true then some ((xs.map Datum.toD).any fun y => PyData.eqv y (Datum.toD x)) else none) = _
  rw [okD_dat (by omega), h2]
  exact congrArg some (any_datum xs x)
theorem in_datL (hd : Datum.depth α ≤ 50) (x : α) (xs : List α) : inB (Datum.toD x) (.list (xs.map Datum.toD)) = some (decide (x ∈ xs)) := by
  have h2 : okD (.list (xs.map Datum.toD)) = true := okD_dat (α := List α) (by show Datum.depth α + 1 ≤ 60; omega) xs
  show (if (okD (Datum.toD x) && okD (.list (xs.map Datum.toD))) = true then some ((xs.map Datum.toD).any fun y => PyData.eqv y (Datum.toD x)) else none) = _
  rw [okD_dat (by omega), h2]
  exact congrArg some (any_datum xs x)
theorem eq_nilD (hd : Datum.depth α ≤ 50) (xs : List α) : eqB (.list (xs.map Datum.toD)) (.list []) = some (decide (xs = [])) := eq_dat (α := List α) (by show Datum.depth α + 1 ≤ 60; omega) xs []
theorem ne_nilD (hd : Datum.depth α ≤ 50) (xs : List α) : neB (.list (xs.map Datum.toD)) (.list []) = some (!decide (xs = [])) := ne_dat (α := List α) (by show Datum.depth α + 1 ≤ 60; omega) xs []
end
theorem nonN_ord {α : Type} [DecidableEq α] [DatumOrd α] (a : α) : nonN (Datum.toD a) = true := by
  have := DatumOrd.notNone a
  revert this
  cases Datum.toD a <;> simp [nonN]
theorem lt_ord {α : Type} [DecidableEq α] [DatumOrd α] (hd : Datum.depth α ≤ 60) (a b : α) : ltB (Datum.toD a) (Datum.toD b) = some (DatumOrd.lt a b) := by
  unfold ltB
  rw [DatumOrd.alike, okD_map hd, okD_map hd, nonN_ord, ← DatumOrd.lt_eq]
  rfl
/-! ### operators, step by step (simp over them makes the kernel's work endless) -/
section
variable {f g : Env → Option D} {ρ : Env} {a b : Int}
theorem ev_add (hf : f ρ = some (.int a)) (hg : g ρ = some (.int b)) : op2 addA f g ρ = some (.int (a + b)) := by rw [e_op2, hf, Option.bind_some, hg, Option.bind_some, v_addI]
theorem ev_sub (hf : f ρ = some (.int a)) (hg : g ρ = some (.int b)) : op2 subD f g ρ = some (.int (a - b)) := by rw [e_op2, hf, Option.bind_some, hg, Option.bind_some, v_subI]
theorem ev_mul (hf : f ρ = some (.int a)) (hg : g ρ = some (.int b)) (h : (-(2 ^ 64) < a ∧ a < 2 ^ 64) ∨ (-(2 ^ 64) < b ∧ b < 2 ^ 64)) : op2 mul2D f g ρ = some (.int (a * b)) := by rw [e_op2, hf, Option.bind_some, hg, Option.bind_some, v_mulI a b h]
theorem ev_fdiv (hf : f ρ = some (.int a)) (hg : g ρ = some (.int b)) (h : 0 < b ∧ b < 1073741824) : op2 fdivD f g ρ = some (.int (a / b)) := by rw [e_op2, hf, Option.bind_some, hg, Option.bind_some, v_fdivI a b h]
theorem ev_fn1 {k : List D → Option D} {x : D} (h1 : f ρ = some x) : fn k (acons f anil) ρ = k [x] := by rw [e_fn, e_acons, h1, Option.bind_some, e_anil, Option.bind_some, Option.bind_some]
theorem ev_fn2 {k : List D → Option D} {x y : D} (h1 : f ρ = some x) (h2 : g ρ = some y) : fn k (acons f (acons g anil)) ρ = k [x, y] := by rw [e_fn, e_acons, h1, Option.bind_some, e_acons, h2, Option.bind_some, e_anil, Option.bind_some, Option.bind_some, Option.bind_some]
theorem ev_fn3 {k : List D → Option D} {x y z : D} {h : Env → Option D} (h1 : f ρ = some x) (h2 : g ρ = some y) (h3 : h ρ = some z) : fn k (acons f (acons g (acons h anil))) ρ = k [x, y, z] := by rw [e_fn, e_acons, h1, Option.bind_some, e_acons, h2, Option.bind_some, e_acons, h3, Option.bind_some, e_anil, Option.bind_some, Option.bind_some, Option.bind_some, Option.bind_some]
theorem ev_op2 {k : D → D → Option D} {x y : D} (h1 : f ρ = some x) (h2 : g ρ = some y) : op2 k f g ρ = k x y := by rw [e_op2, h1, Option.bind_some, h2, Option.bind_some]
theorem ev_mod (hf : f ρ = some (.int a)) (hg : g ρ = some (.int b)) (h : 0 < b) : op2 modD f g ρ = some (.int (a % b)) := by rw [e_op2, hf, Option.bind_some, hg, Option.bind_some, v_modI a b h]
end
theorem mut_gen {i : Nat} {kw : D → List D → Option (D × D)} {ase : Env → Option (List D × Env)} {ρ ρ' : Env} {xs0 : List D} {d v d' : D} {ds : List D} (h0 : var i ρ = some (.list xs0)) (ha : ase ρ = some (ds, ρ')) (h1 : var i ρ' = some d) (e : kw d ds = some (v, d')) : mutL i kw ase ρ = some (v, ρ'.set i (some d')) := by
  rw [e_mutL, h0, Option.bind_some]
  show ((ase ρ).bind _) = _
  rw [ha, Option.bind_some]
  show (var i ρ').bind _ = _
  rw [h1, Option.bind_some]
  show (kw d ds).bind _ = _
  rw [e]
  rfl
theorem mut_to {i : Nat} {kw : D → List D → Option (D × D)} {ase : Env → Option (List D × Env)} {ρ : Env} (ρ' : Env) {ρ2 : Env} {xs0 : List D} {d v d' : D} {ds : List D} (h0 : var i ρ = some (.list xs0)) (ha : ase ρ = some (ds, ρ')) (h1 : var i ρ' = some d) (e : kw d ds = some (v, d')) (h2 : ρ'.set i (some d') = ρ2) : mutL i kw ase ρ = some (v, ρ2) := by
  rw [← h2]
  exact mut_gen h0 ha h1 e
theorem pop_at {xs : List D} {r : Nat} (h : r < xs.length) (hz : xs.length ≤ 1000000) : popAtD (.list xs) [.int (r : Int)] = some (xs[r], .list (xs.eraseIdx r)) := by
  unfold popAtD
  dsimp only
  rw [if_pos (by omega), (ixN_seq (Evl.ixN_nat h)).1, Option.bind_some, List.getElem?_eq_getElem h]
  rfl
theorem v_ssetI (xs : List Int) (hz : xs.length ≤ 4000) : sortSetD (.list (xs.map .int)) = some (.list ((sset xs).map .int)) := by
  show (if _ ∧ _ then some (PyData.list (sortedL (uniqD [] (xs.map PyData.int)))) else none) = _
  rw [if_pos ⟨Bool.or_eq_true_iff.mpr (.inl (by rw [List.all_map]; exact List.all_eq_true.mpr fun _ _ => rfl)), by rw [List.length_map]; exact hz⟩]
  have h1 := uniqD_map xs []
  rw [List.map_nil] at h1
  have h2 := sortL_map (uniq [] xs)
  exact congrArg (fun l => some (PyData.list l)) ((congrArg sortedL h1).trans h2)
theorem erase_map {α β : Type} (f : α → β) : ∀ (l : List α) (k : Nat), (l.map f).eraseIdx k = (l.eraseIdx k).map f
  | [], _ => rfl
  | a :: l, 0 => rfl
  | a :: l, k + 1 => congrArg (f a :: ·) (erase_map f l k)
theorem erase_perm {α : Type} : ∀ (l : List α) (i : Nat) (h : i < l.length), (l[i] :: l.eraseIdx i).Perm l
  | a :: l, 0, h => List.Perm.refl _
  | a :: l, i + 1, h => (List.Perm.swap a _ _).trans (List.Perm.cons a (erase_perm l i (Nat.lt_of_succ_lt_succ h)))
/-! ### places -/
abbrev nD (k : Nat) : D := .int (k : Int)
theorem eq_nilN (ks : List Nat) : eqB (.list (ks.map nD)) (.list []) = some (decide (ks = [])) := by
  have := eq_nilD (α := Int) (by decide) (ks.map fun (k : Nat) => (k : Int))
  rw [List.map_map] at this
  refine this.trans (congrArg some (decide_eq_decide.mpr ?_))
  rw [List.map_eq_nil_iff]
theorem ne_nilN (ks : List Nat) : neB (.list (ks.map nD)) (.list []) = some (!decide (ks = [])) := by
  have := ne_nilD (α := Int) (by decide) (ks.map fun (k : Nat) => (k : Int))
  rw [List.map_map] at this
  refine this.trans (congrArg (fun b => some (!b)) (decide_eq_decide.mpr ?_))
  rw [List.map_eq_nil_iff]
theorem at_last {ds : List D} {v : D} (h : ds.getLast? = some v) : ixA (.list ds) (.int (-1)) = some v := by
  have hne : ds ≠ [] := fun e => by rw [e] at h; cases h
  have hp := List.length_pos_iff.mpr hne
  rw [List.getLast?_eq_getElem?] at h
  show atI ds (-1) = _
  have e : ixN ds.length (-1) = some (ds.length - 1) := by
    unfold ixN
    first
      | (rw [if_neg (by omega)]; rw [if_pos (by omega)]; congr 1; omega)
      | (split <;> first | omega | (congr 1; omega) | skip)
  unfold atI
  rw [e]
  exact h
theorem slcT_take (ds : List D) (n : Nat) : slcD (.tuple ds) none (some (n : Int)) = some (.tuple (ds.take n)) := by
  show some (PyData.tuple (cutD _ _ _)) = _
  rw [l_take]
theorem slcT_drop (ds : List D) (n : Nat) : slcD (.tuple ds) (some (n : Int)) none = some (.tuple (ds.drop n)) := by
  show some (PyData.tuple (cutD _ _ _)) = _
  rw [l_drop]
theorem slcL_drop (ds : List D) (n : Nat) : slcD (.list ds) (some (n : Int)) none = some (.list (ds.drop n)) := by
  show some (PyData.list (cutD _ _ _)) = _
  rw [l_drop]
theorem slcT_mid (ds : List D) {a b : Nat} (h : b ≤ ds.length) (hab : a ≤ b) : slcD (.tuple ds) (some (a : Int)) (some (b : Int)) = some (.tuple ((ds.drop a).take (b - a))) := by
  show some (PyData.tuple (cutD _ _ _)) = _
  unfold cutD
  rw [sIx_n, sIx_n, Nat.min_eq_left h, Nat.min_eq_left (by omega)]
theorem put_list {ds : List D} {k : Nat} {v : D} (h : k < ds.length) : putD (.list ds) (nD k) v = some (.list (ds.set k v)) := by
  show (ixN ds.length (k : Int)).map _ = _
  rw [Evl.ixN_nat h]
  rfl
/-- ascending lists of numbers are told by their members -/
theorem asc_extN {xs ys : List Nat} (hx : xs.Pairwise (· < ·)) (hy : ys.Pairwise (· < ·)) (h : ∀ a, a ∈ xs ↔ a ∈ ys) : xs = ys := by
  have nx : xs.Nodup := hx.imp fun q e => by omega
  have ny : ys.Nodup := hy.imp fun q e => by omega
  exact List.Perm.eq_of_pairwise (le := (· < ·)) (fun a b _ _ h1 h2 => by omega) hx hy ((List.perm_ext_iff_of_nodup nx ny).mpr h)
theorem asc_range (n : Nat) (p : Nat → Bool) : ((List.range n).filter p).Pairwise (· < ·) := List.pairwise_lt_range.filter p
theorem last_ge {l : List Nat} (h : l.Pairwise (· < ·)) {m : Nat} (e : l.getLast? = some m) : m ∈ l ∧ ∀ k ∈ l, k ≤ m := by
  have hm : m ∈ l := List.mem_of_getLast? e
  refine ⟨hm, fun k hk => ?_⟩
  obtain ⟨i, hi, rfl⟩ := List.getElem_of_mem hk
  rw [List.getLast?_eq_getElem?] at e
  obtain ⟨h1, h2⟩ := List.getElem?_eq_some_iff.mp e
  rw [← h2]
  rcases Nat.lt_or_eq_of_le (show i ≤ l.length - 1 by omega) with q | q
  · exact Nat.le_of_lt (List.pairwise_iff_getElem.mp h i (l.length - 1) hi h1 q)
  · simp only [q]; exact Nat.le_refl _
theorem head_le {l : List Nat} (h : l.Pairwise (· < ·)) {m : Nat} (e : l.head? = some m) : m ∈ l ∧ ∀ k ∈ l, m ≤ k := by
  cases l with
  | nil => cases e
  | cons a l =>
    cases e
    refine ⟨List.mem_cons_self, fun k hk => ?_⟩
    rcases List.mem_cons.mp hk with rfl | hk
    · exact Nat.le_refl _
    · exact Nat.le_of_lt ((List.pairwise_cons.mp h).1 k hk)
/-- range of a number that may be negative -/
theorem rng_neg {f : Env → Option D} {ρ : Env} (hf : f ρ = some (.int (-1))) : rng (acons f anil) ρ = some [] := by
  rw [e_rng, e_acons, hf, Option.bind_some, e_anil, Option.bind_some, Option.bind_some]
  rfl
theorem rng_int {f : Env → Option D} {ρ : Env} {i : Int} (hf : f ρ = some (.int i)) (h1 : -16777216 ≤ i) (h : i ≤ 16777216) : rng (acons f anil) ρ = some ((List.range i.toNat).map nD) := by
  rw [e_rng, e_acons, hf, Option.bind_some, e_anil, Option.bind_some, Option.bind_some]
  show (if _ then some (rngL 0 i.toNat) else none) = _
  rw [if_pos ⟨h1, h⟩]
  unfold rngL
  simp
/-- range of two ints -/
theorem rng_ints {f g : Env → Option D} {ρ : Env} {a b : Int} (hf : f ρ = some (.int a)) (hg : g ρ = some (.int b)) (h1 : -1000000 ≤ a) (h2 : a ≤ 1000000) (h3 : -1000000 ≤ b) (h4 : b ≤ 1000000) : rng (acons f (acons g anil)) ρ = some ((List.range (b - a).toNat).map fun (i : Nat) => PyData.int (a + (i : Int))) := by
  rw [e_rng, e_acons, hf, Option.bind_some, e_acons, hg, Option.bind_some, e_anil, Option.bind_some, Option.bind_some, Option.bind_some]
  show (if _ then some (rngL a (b - a).toNat) else none) = _
  rw [if_pos (by omega)]
  rfl
end PL

set_option Elab.async false
set_option linter.all false
set_option maxRecDepth 100000
namespace PL
open PySem PySem.Spec PyProof.Rows L2 PySem.W

/-! ### len(set(x)) where x is a list of tuples of ints -/
def isIT : D → Bool
  | .tuple es => es.all fun e => match e with | .int _ => true | _ => false
  | _ => false
def lenSetA : D → Option D
  | .list ds => if setOk ds = true then lenSetD (.list ds) else if ds.all isIT = true ∧ ds.length < 64 then some (.int ((uniqD [] ds).length : Int)) else none
  | d => lenSetD d
section
variable {X : Cx} {K : PySem.W.Frag} {Hd H : Hp} {e : Expr} {O : List Nat} {f : Env → Option D} {pos p p2 q : Pos}
theorem it_ints : ∀ {es : List D}, (es.all fun e => match e with | .int _ => true | _ => false) = true → ∃ ns : List Int, es = ns.map .int
  | [], _ => ⟨[], rfl⟩
  | e :: es, h => by
    rw [List.all_cons, Bool.and_eq_true_iff] at h
    obtain ⟨ns, rfl⟩ := it_ints h.2
    cases e with
    | int i => exact ⟨i :: ns, rfl⟩
    | _ => exact absurd h.1 (by simp)
theorem rps_intsA : ∀ {ns : List Int} {xs : List V}, Rps K H xs (ns.map .int) → xs = ns.map V.int
  | [], _, h => by cases h; rfl
  | n :: ns, _, h => by
    cases h with
    | cons r t =>
      rw [rps_intsA t]
      cases r
      rfl
theorem rps_tups : ∀ {ds : List D} {xs : List V}, Rps K Hd xs ds → ds.all isIT = true → ∃ ks : List (Addr × List Int), xs = ks.map (fun p => V.ref p.1) ∧ (∀ p ∈ ks, TU Hd p.1 (p.2.map V.int)) ∧ ds = ks.map fun p => .tuple (p.2.map .int)
  | [], _, h, _ => by cases h; exact ⟨[], rfl, fun _ h => (by cases h), rfl⟩
  | d :: ds, _, h, ha => by
    rw [List.all_cons, Bool.and_eq_true_iff] at ha
    cases h with
    | cons r t =>
      obtain ⟨ks, rfl, h2, rfl⟩ := rps_tups t ha.2
      cases d with
      | tuple es =>
        obtain ⟨ns, rfl⟩ := it_ints ha.1
        cases r with
        | @tup a ys _ k1 k2 kz =>
          rw [rps_intsA k2] at k1
          exact ⟨(a, ns) :: ks, rfl, fun p hp => (List.mem_cons.mp hp).elim (fun e => by rw [e]; exact k1) (h2 p), rfl⟩
      | _ => exact absurd ha.1 Bool.false_ne_true
theorem uniq_tups (ks : List (List Int)) : (uniqD [] (ks.map fun k => PyData.tuple (k.map .int))).length = (uniq [] ks).length := by
  have h1 := uniqD_map (α := Tup Int) (ks.map fun k => ⟨k⟩) []
  have e1 : (ks.map fun k => (⟨k⟩ : Tup Int)).map (Datum.toD : Tup Int → D) = ks.map fun k => PyData.tuple (k.map .int) := by rw [List.map_map]; rfl
  rw [e1] at h1
  have h2 : uniqD [] (ks.map fun k => PyData.tuple (k.map .int)) = _ := h1
  rw [h2, List.length_map]
  have p : (uniq [] (ks.map fun k => (⟨k⟩ : Tup Int))).Perm ((uniq [] ks).map fun k => (⟨k⟩ : Tup Int)) := by
    refine (List.perm_ext_iff_of_nodup (uniq_nodup _ [] List.nodup_nil) (List.pairwise_map.mpr ((uniq_nodup ks [] List.nodup_nil).imp fun n e => n (Tup.mk.inj e)))).mpr fun a => ?_
    rw [uniq_mem, List.mem_map, List.mem_map]
    constructor
    · rintro (h | ⟨k, hk, rfl⟩)
      · cases h
      · exact ⟨k, (uniq_mem ks [] k).mpr (.inr hk), rfl⟩
    · rintro ⟨k, hk, rfl⟩
      exact .inr ⟨k, ((uniq_mem ks [] k).mp hk).resolve_left (fun z => by cases z), rfl⟩
  rw [p.length_eq, List.length_map]
def tSetA (K : PySem.W.Frag) (ta : TE) : TE := fun σ H Q => ta σ H fun x H1 =>
  (∃ (a : Addr) (xs : List V) (ks : List Key), x = .ref a ∧ (SqL K H1 a xs ∨ SqT K H1 a xs) ∧ xs = ks.map kV ∧ ks.length ≤ 4000 ∧ kindOk ks = true ∧ Q (.int ((uniqK [] ks).length : Nat)) H1) ∨
  ∃ (a : Addr) (ks : List (Addr × List Int)), x = .ref a ∧ SqL K H1 a (ks.map fun p => V.ref p.1) ∧ (∀ p ∈ ks, SqT K H1 p.1 (p.2.map V.int)) ∧ ks.length < 64 ∧ Q (.int ((uniq [] (ks.map (·.2))).length : Nat)) H1
theorem pe_lenSetA {ta : TE} (hc : X.calm = true) (hu : X.A.units + 64 < cLine) (hg : Gl X "len") (hm : X.mg "len" = none) (hg2 : Gl X "set") (hm2 : X.mg "set" = none) (ha : PE X e ta)
    (na : starEach [e] X.env = (false, eval e X.env) :: starEach [] X.env := by rfl) : PE X (.Call (.Name "len" p) [.Call (.Name "set" p2) [e] [] q] [] pos) (tSetA X.K ta) := by
  refine ⟨fun pins s σ H Q I h => ?_⟩
  refine Call_ (ld_blt I hg hm boot_len ?_)
  refine PyProof.Rows.callWith_builtin1 (PyProof.Rows.args_cons ?_ rfl) rfl rfl
  refine Call_ (ld_blt I hg2 hm2 boot_set ?_)
  refine PyProof.Rows.callWith_type1 (PyProof.Rows.args_cons (thn (ha.run pins s σ H _ I h) fun v s1 ⟨x, H1, I1, r1, q1⟩ => PyProof.Rows.args_nil ?_) na) na rfl
  rcases q1 with ⟨a, xs, ks, rfl, hq, rfl, hl, sk, q1⟩ | ⟨a, ks, rfl, hq, hk, hf, q1⟩
  · cases r1
    refine set_made hc I1 hq hl fun h' tk S I2 => PyProof.Rows.args_nil ?_
    obtain ⟨o, es, ep, t, ho, hex, hd, _, _, _, _, hf, hn, _⟩ := S
    have := uniqK_le hl
    exact call_len_set ho hex hd hf (by rw [hn] <;> omega) ⟨.int (uniqK [] ks).length, H1, I2.tok _, ⟨_, by rw [hn]⟩, q1⟩
  · cases r1
    obtain ⟨its, rv, pl, hz⟩ := I1.list hq
    refine call_set_tups (P := X.prog) (w := X.w) ks (I1.ok.hd hc) pl.isList (by simpa using refs_of_vals rv) (fun p hp => L2.Inv.isT I1 (hk p hp)) hf (by omega) fun h' tk L es ep t R g k => PyProof.Rows.args_nil ?_
    have I2 : L2.Inv X pins σ H1 { s1 with heap := h', toks := tk } := I1.kept k
    obtain ⟨o, ho, hex, hd⟩ := R.ob
    have hn := SetTR.size (s := { s1 with heap := h', toks := tk }) R
    have hfew := R.few
    have hp : (L.map (·.2)).Perm (uniq [] (ks.map (·.2))) := by
      refine (List.perm_ext_iff_of_nodup R.nd (uniq_nodup _ [] List.nodup_nil)).mpr fun a => ?_
      rw [uniq_mem]
      constructor
      · intro h
        obtain ⟨p, hp, rfl⟩ := List.mem_map.mp h
        exact .inr (List.mem_map_of_mem (List.mem_of_mem_take (g.sub p hp)))
      · rintro (h | h)
        · cases h
        · obtain ⟨p, hp, rfl⟩ := List.mem_map.mp h
          exact g.all p (by rw [List.take_length]; exact hp)
    have hle : L.length = (uniq [] (ks.map (·.2))).length := by rw [← hp.length_eq, List.length_map]
    exact call_len_set ho hex hd (SetTR.fits (s := { s1 with heap := h', toks := tk }) R) (by rw [hn] <;> omega) ⟨.int ((uniq [] (ks.map (·.2))).length : Nat), H1, I2.tok _, ⟨_, by rw [hn, hle]⟩, q1⟩
theorem p_lenSetA (hc : X.calm = true) (hu : X.A.units + 64 < cLine) (hg : Gl X "len") (hm : X.mg "len" = none) (hg2 : Gl X "set") (hm2 : X.mg "set" = none) (ha : PE X e (tP X.K .bor O f))
    (na : starEach [e] X.env = (false, eval e X.env) :: starEach [] X.env := by rfl) : PE X (.Call (.Name "len" p) [.Call (.Name "set" p2) [e] [] q] [] pos) (tP X.K .dat O (op1 lenSetA f)) :=
  PE.imp (pe_lenSetA hc hu hg hm hg2 hm2 ha na) fun σ H Q ⟨fc, ρ, Hd, z, S, hf, qq⟩ => by
    unfold op1 at hf
    obtain ⟨d, h1, hf⟩ := bind_some hf
    refine ⟨fc, ρ, Hd, d, S, h1, fun v Hd1 H1 g r => ?_⟩
    suffices old : lenSetD d = some z → ((∃ (a : Addr) (xs : List V) (ks : List Key), v = .ref a ∧ (SqL X.K H1 a xs ∨ SqT X.K H1 a xs) ∧ xs = ks.map kV ∧ ks.length ≤ 4000 ∧ kindOk ks = true ∧ Q (.int ((uniqK [] ks).length : Nat)) H1) ∨
      ∃ (a : Addr) (ks : List (Addr × List Int)), v = .ref a ∧ SqL X.K H1 a (ks.map fun p => V.ref p.1) ∧ (∀ p ∈ ks, SqT X.K H1 p.1 (p.2.map V.int)) ∧ ks.length < 64 ∧ Q (.int ((uniq [] (ks.map (·.2))).length : Nat)) H1) by
      revert old
      intro old
      unfold lenSetA at hf
      split at hf
      · split at hf
        · exact old hf
        · split at hf
          · rename_i ds _ hc
            cases hf
            cases r with
            | @lst a xs _ k1 k2 hz =>
              obtain ⟨ks, rfl, h2, rfl⟩ := rps_tups k2 hc.1
              refine .inr ⟨a, ks, rfl, .inl k1, fun p hp => (tu_mono g.s (h2 p hp)).sq, by have := hc.2; rw [List.length_map] at this; exact this, ?_⟩
              have e := uniq_tups (ks.map (·.2))
              rw [List.map_map] at e
              have e' : (uniqD [] (ks.map fun p => PyData.tuple (p.2.map .int))).length = (uniq [] (ks.map (·.2))).length := e
              rw [e'] at qq
              exact qq _ Hd1 H1 g (.int _)
          · cases hf
      · exact old hf
    intro hf
    obtain ⟨ds, hd, ok, hl, rfl⟩ := lenSet_inv hf
    obtain ⟨a, xs, ks, rfl, hq, rfl, rfl, sk⟩ := set_of r g.s hd ok
    rw [List.length_map] at hl
    refine .inl ⟨a, _, ks, rfl, hq, rfl, hl, sk, ?_⟩
    rw [uniqD_k, List.length_map] at qq
    exact qq _ Hd1 H1 g (.int _)
/-- what it gives -/
theorem v_lenSetT (ks : List (List Int)) (h : ks.length < 64) (hs : setOk (ks.map fun k => PyData.tuple (k.map .int)) = false) : lenSetA (.list (ks.map fun k => PyData.tuple (k.map .int))) = some (.int ((uniq [] ks).length : Int)) := by
  unfold lenSetA
  have ha : (ks.map fun k => PyData.tuple (k.map .int)).all isIT = true := by
    rw [List.all_map]
    refine List.all_eq_true.mpr fun k _ => ?_
    show ((k.map PyData.int).all _) = true
    rw [List.all_map]
    exact List.all_eq_true.mpr fun _ _ => rfl
  show (if _ then _ else if _ then _ else _) = _
  rw [if_neg (by rw [hs]; exact Bool.false_ne_true), if_pos ⟨ha, by rw [List.length_map]; exact h⟩, uniq_tups]
end
end PL

set_option Elab.async false
set_option linter.all false
set_option maxRecDepth 100000
namespace PL
open PySem PySem.SeqAt PySem.Spec PySem.Calls PyProof.Rows L2 PySem.W

/-! ### sorted of tuples among which () may be -/
section
variable {prog : Program} {w : World} {A : Around} {E : Value → Shared → Prop} {s : Shared}
theorem call_tuple_lt {Q : Value → Shared → Prop} {l b : Addr} {items items2 : Array Value} {e r : Nat → Bool} (hl : s.heap.IsTuple l items) (hb : s.heap.IsTuple b items2)
    (he : ∀ j (h1 : j < items.size) (h2 : j < items2.size), SeqAt.EqAt A.in1 s items[j] items2[j] (e j)) (hr : ∀ j (h1 : j < items.size) (h2 : j < items2.size), e j = false → SeqAt.RcLt A.in1 s items[j] items2[j] (r j))
    (h : Q (.bool (SeqAt.firstLt e r (decide (items.size < items2.size)) (List.range (min items.size items2.size)))) s) : wpAny (model prog w) A (call (.builtin "tuple.__lt__") [.ref l, .ref b]) Q E s := by
  obtain ⟨⟨cls, dd, data, sl⟩, ho, hc, n, hd⟩ := id hl
  obtain ⟨⟨cls2, dd2, data2, sl2⟩, ho2, hc2, n2, hd2⟩ := id hb
  simp only at hc hd hc2 hd2
  subst hc hd hc2 hd2
  exact call_meets PySem.F.slot_tuple_lt ⟨_, ho, rfl⟩ PySem.F.entry_tuple_lt (PySem.F.args_tuple_lt_2 _ _) (SeqAt.tuple_ltAt l b items items2 n n2 dd dd2 sl sl2 e r) ⟨ho, ho2, he, hr, h⟩
theorem oneLt_tup {f : Bool} {xs ys : List PyData} {a b : Value} {as bs : List Addr} {Q : Bool → Shared → Prop} (ra : Reads s.heap a (.tuple xs) as) (rb : Reads s.heap b (.tuple ys) bs) (h : alike (.tuple xs) (.tuple ys) = true)
    (hu : A.units + min (PyData.tuple xs).depth (PyData.tuple ys).depth < cLine) (hq : Q (dataLt (.tuple xs) (.tuple ys)) s) : wpAny (model prog w) A (oneLt' f a b) Q E s := by
  cases f with
  | false => exact oneLt_alike (fun z => Bool.noConfusion z) ra rb h (fun z => nomatch z) hu hq
  | true =>
    have hal : alikeAll xs ys = true := by simpa [alike] using h
    cases ra with
    | @tuple l o vs n _ as₁ h1 h2 h3 h4 =>
      cases rb with
      | @tuple l' o' vs' n' _ bs₁ k1 k2 k3 k4 =>
        have n1 : vs.size = xs.length := by simpa using ReadsAll.length _ _ _ h4
        have n2 : vs'.size = ys.length := by simpa using ReadsAll.length _ _ _ k4
        rw [dataLt_tuple, ← firstLt_toks xs ys hal, ← n1, ← n2] at hq
        rw [oneLt'_eq]
        simp only [if_true]
        refine wpAny_bind (wpAny_cRoomFor (room_here hu) ?_)
        refine wpAny_bind (wpAny_callSpecialIfBound?_slot (T := "tuple") ⟨_, h1, h2⟩ PySem.F.slot_tuple_lt (call_tuple_lt (e := pairEq xs ys) (r := fun j => dataLt (xs.getD j .none) (ys.getD j .none)) ⟨_, h1, h2, _, h3⟩ ⟨_, k1, k2, _, k3⟩ (fun j j1 j2 => ?_) (fun j j1 j2 hj => ?_) ?_))
        · have := eqAt_alikeAll xs ys A.in1 s vs.toList vs'.toList _ _ h4 k4 hal (room_in hu) j (by simpa using j1) (by simpa using j2)
          simpa using this
        · have := rcLt_alikeAll xs ys A.in1 s vs.toList vs'.toList _ _ h4 k4 hal (room_in hu) j (by simpa using j1) (by simpa using j2) hj
          simpa using this
        · exact wpAny_truthy_bool hq
def full : PyData → Bool
  | .tuple (_ :: _) => true
  | _ => false
theorem mix_firsts {M : Model} : ∀ {vs : List Value} {ds : List PyData}, EachIs (fun v d => ∃ as, Reads s.heap v d as) vs ds → (∀ d ∈ ds, ∃ xs, d = .tuple xs) →
    ∃ rs : List (Option Value), rs.map (·.isSome) = ds.map full ∧ ∀ (E : Value → Shared → Prop) (Q : List (Option Value) → Shared → Prop), Q rs s → wpAny M A (vs.mapM firstOfTuple') Q E s
  | _, _, .nil, _ => ⟨[], rfl, fun E Q h => by rw [List.mapM_nil]; exact wpAny_pure h⟩
  | v :: vs, d :: ds, .cons ⟨as, r⟩ t, ht => by
    obtain ⟨rs, h1, h2⟩ := mix_firsts (M := M) t fun d hd => ht d (.tail _ hd)
    obtain ⟨xs, rfl⟩ := ht _ List.mem_cons_self
    cases r with
    | @tuple a o items n _ _ ho hc hd hr =>
      refine ⟨items[0]? :: rs, ?_, fun E Q h => ?_⟩
      · rw [List.map_cons, List.map_cons, h1]
        refine congrArg (· :: _) ?_
        have hl := ReadsAll.length _ _ _ hr
        rw [Array.length_toList] at hl
        cases xs with
        | nil =>
          have : items[0]? = none := Array.getElem?_eq_none (by rw [hl]; simp)
          rw [this]
          rfl
        | cons x xs =>
          rw [Array.getElem?_eq_getElem (by rw [hl]; simp)]
          rfl
      · rw [List.mapM_cons]
        refine wpAny_bind ?_
        rw [kas_first_eq]
        refine wpAny_bind (Looks.here (show Looks M s.heap (typeOf (.ref a)) o.cls from (Looks.ld ho).andThen .now) ?_)
        rw [hc, if_neg (by first | decide | simp)]
        refine wpAny_bind (listItems_at ho hd (wpAny_pure ?_))
        exact wpAny_bind (h2 E (fun bs s' => wpAny M A (pure (items[0]? :: bs)) Q E s') (wpAny_pure h))
theorem mix_kind {M : Model} {vs : List Value} {ds : List PyData} (e : EachIs (fun v d => ∃ as, Reads s.heap v d as) vs ds) (ht : ∀ d ∈ ds, ∃ xs, d = .tuple xs) (hne : ds.all full = false) :
    ∃ kd : SortKind, (kd = oneType' ∨ kd = general') ∧ ∀ (E : Value → Shared → Prop) (Q : SortKind → Shared → Prop), Q kd s → wpAny M A (keyKind' vs.toArray) Q E s := by
  obtain ⟨rs, h1, h2⟩ := mix_firsts (M := M) (A := A) e ht
  have hall : (rs.toArray.all fun x => x.isSome) = false := by
    rw [← hne]
    have : (rs.map (·.isSome)).all id = (ds.map full).all id := by rw [h1]
    rw [List.all_map, List.all_map] at this
    simpa using this
  have hT : ∀ v ∈ vs, Looks M s.heap (typeOf v) (.type "tuple") := fun v hv => by
    obtain ⟨d, hd, as, r⟩ := e.left v hv
    obtain ⟨xs, rfl⟩ := ht d hd
    exact looks_reads r
  by_cases hf : (rs.toArray[0]?.bind id).isSome = true
  · refine ⟨general', .inr rfl, fun E Q h => ?_⟩
    rw [keyKind'_eq, List.mapM_toArray, map_eq_pure_bind]
    refine wpAny_bind (wpAny_bind (h2 E _ (wpAny_pure ?_)))
    rw [if_neg (by rw [hall]; exact Bool.false_ne_true), if_pos hf]
    exact wpAny_pure h
  · refine ⟨oneType', .inl rfl, fun E Q h => ?_⟩
    rw [keyKind'_eq, List.mapM_toArray, map_eq_pure_bind]
    refine wpAny_bind (wpAny_bind (h2 E _ (wpAny_pure ?_)))
    rw [if_neg (by rw [hall]; exact Bool.false_ne_true), if_neg hf]
    rw [oneTypeOnly'_eq, List.mapM_toArray, map_eq_pure_bind]
    refine wpAny_bind (wpAny_bind (wpAny_bind (kas_mapM (r := Value.type "tuple") _ (fun v hv Q' hq => (hT v hv).here hq) (wpAny_pure ?_))))
    cases vs with
    | nil =>
      cases e
      exact absurd hne (by decide)
    | cons v vs =>
      have hall2 : ((List.map (fun _ => Value.type "tuple") (v :: vs)).toArray.all fun x => x == Value.type "tuple") = true := by
        simp only [List.all_toArray, List.all_map, List.all_eq_true]
        intro _ _
        exact beq_self_eq_true _
      have h0 : (List.map (fun _ => Value.type "tuple") (v :: vs)).toArray[0]? = some (Value.type "tuple") := by simp
      rw [h0]
      simp only [hall2, if_true]
      exact wpAny_pure (wpAny_pure h)
theorem sortsAt_mix {vs : List Value} {ds : List PyData} (e : EachIs (fun v d => ∃ as, Reads s.heap v d as) vs ds) (hal : AllAlike ds) (ht : ∀ d ∈ ds, ∃ xs, d = .tuple xs) (hu : ∀ d, d ∈ ds → A.units + d.depth < cLine) : SortsAt prog w A s (dataKind s.heap ds) vs := by
  cases hf : ds.all full with
  | true =>
    refine SortsAt.data e hal (.inl fun d hd => ?_) hu
    have := List.all_eq_true.mp hf d hd
    cases d with
    | tuple l =>
      cases l with
      | nil => cases this
      | cons x r => exact ⟨x, r, rfl⟩
    | _ => cases this
  | false =>
    refine ⟨fun v hv => ?_, ?_⟩
    · obtain ⟨d, hd, as, r⟩ := e.left v hv
      exact ⟨_, dataKind_some hal hd r⟩
    · have lt : ∀ f : Bool, ∀ (E : Value → Shared → Prop) (x y : Value) (a b : List (Int ⊕ List Nat)) (Q : Bool → Shared → Prop), (dataKind s.heap ds).keyOf x = some a → (dataKind s.heap ds).keyOf y = some b → Q ((dataKind s.heap ds).blt a b) s → wpAny (model prog w) A (oneLt' f x y) Q E s := by
        intro f E x y a b Q ha hb hq
        obtain ⟨d, as, hd, ra, rfl⟩ := dataKind_inv ha
        obtain ⟨d', as', hd', rb, rfl⟩ := dataKind_inv hb
        obtain ⟨xs, rfl⟩ := ht d hd
        obtain ⟨ys, rfl⟩ := ht d' hd'
        exact oneLt_tup ra rb (hal _ hd _ hd') (Nat.lt_of_le_of_lt (Nat.add_le_add_left (Nat.min_le_left _ _) _) (hu _ hd)) hq
      obtain ⟨kd, hk, k⟩ := mix_kind (M := model prog w) (A := A) e ht hf
      refine ⟨kd, ?_, fun _ E Q hq => k E Q hq⟩
      rcases hk with rfl | rfl
      · intro E x y a b Q ha hb hq
        exact lt true E x y a b Q ha hb hq
      · intro E x y a b Q ha hb hq
        exact lt false E x y a b Q ha hb hq
theorem sorted_mix {β : Type} {vs : List Value} {bs : List β} {enc : β → PyData} {R : Value → β → Prop} {l : Addr} {Q : Value → Shared → Prop} (hl : s.heap.IsList l vs.toArray) (e : EachIs R vs bs) (er : EachIs (fun v b => ∃ as, Reads s.heap v (enc b) as) vs bs) (hal : AllAlike (bs.map enc)) (ht : ∀ d ∈ bs.map enc, ∃ xs, d = .tuple xs) (hL : bs.length ≤ sizeLine)
    (hu : ∀ b, b ∈ bs → A.units + 2 + (enc b).depth < cLine) (h : ∀ out, out.length = bs.length → EachIs R out (bs.mergeSort (dataLe false enc)) → Q (.ref (s.heap.objs.size + 1)) { s with heap := sortedAll s.heap vs (List.toArray out) }) :
    wpAny (model prog w) A (call (.builtin "sorted") [.ref l]) Q E s := by
  have er' : EachIs (fun v b => ∃ as, Reads (sortingHeap (copyHeap s.heap vs) (s.heap.objs.size + 1) vs) v (enc b) as) vs bs := er.mono fun _ _ ⟨as, r⟩ => ⟨as, PyProof.Rows.Reads.keeps (fun _ _ => sorting_copy_old) r⟩
  exact sorted_vals hl (sortsAt_mix (s := { s with heap := sortingHeap (copyHeap s.heap vs) (s.heap.objs.size + 1) vs }) (each_map (R := fun v d => ∃ as, Reads (sortingHeap (copyHeap s.heap vs) (s.heap.objs.size + 1) vs) v d as) enc er') hal ht (bound_map hu)) (by rw [e.length]; exact hL)
    (h _ (by rw [sortVals_length false rfl]; exact e.length) (sortVals_data false e er' hal))
end
def sortMix (ds : List D) : Bool := ds.all okD && (ds.all fun d => ds.all fun e => alike d e) && ds.all fun d => match d with
  | .tuple _ => true
  | _ => false
def sortedM : List D → Option D
  | [.list ds] => if sortOk ds = true then sortedA [.list ds] else if sortMix ds = true then some (.list (sortedL ds)) else none
  | ds => sortedA ds
section
variable {X : Cx} {K : PySem.W.Frag}
theorem cr_sortedM (hc : X.calm = true) (hu : X.A.units + 64 < cLine) : CallR X (.builtin "sorted") (rN X.K sortedM .fre) := by
  intro pins s σ H xs us Q I rx ⟨Hd, ds, z, eh, t, hk, q⟩
  unfold sortedM at hk
  split at hk
  · rename_i l
    split at hk
    · exact cr_sortedA hc hu pins s σ H xs us Q I rx ⟨Hd, _, z, eh, t, hk, q⟩
    · split at hk
      · rename_i hs
        cases hk
        unfold sortMix at hs
        have g1 := Bool.and_eq_true_iff.mp hs
        have g2 := Bool.and_eq_true_iff.mp g1.1
        have h1 : ∀ d ∈ l, okD d = true := fun d hd => List.all_eq_true.mp g2.1 d hd
        have h2 : ∀ d ∈ l, ∀ e ∈ l, alike d e = true := fun d hd e he => List.all_eq_true.mp (List.all_eq_true.mp g2.2 d hd) e he
        have h3 : ∀ d ∈ l, ∃ xs, d = .tuple xs := fun d hd => by
          have := List.all_eq_true.mp g1.2 d hd
          cases d with
          | tuple xs => exact ⟨xs, rfl⟩
          | _ => cases this
        obtain ⟨x, rfl, tx⟩ := paired1 t
        obtain ⟨u, rfl, ru⟩ := vals1 rx
        cases tx with
        | @lst a ys _ k1 k2 kz =>
          cases ru
          obtain ⟨its, rv, pl, hz⟩ := I.list (.inl k1)
          have h4 : l.length ≤ sizeLine := by rw [← k2.length]; exact kz
          obtain ⟨as, rd⟩ := (k2.mono eh).reads I (clnAll_of h1) rv
          obtain ⟨e1, e2⟩ := each_zip (K := X.K) rv k2 rd
          have hl := k2.length
          have em : (ys.zip l).map (·.2) = l := List.map_snd_zip (by omega)
          have en : (ys.zip l).length = l.length := by rw [List.length_zip]; omega
          refine sorted_mix (bs := ys.zip l) (enc := fun b => b.2) (R := fun v (b : V × D) => RelV b.1 v ∧ Rp X.K Hd b.1 b.2) pl.isList e1 e2 (by rw [em]; exact fun d hd e he => h2 d hd e he) (by rw [em]; exact h3) (by omega) (fun b hb => ?_) fun out ho eo => ?_
          · have hb2 : b.2 ∈ l := by rw [← em]; exact List.mem_map_of_mem hb
            have := okD_depth (h1 _ hb2)
            omega
          · obtain ⟨p1, p2⟩ := each_out eo
            rw [sort_zip (by omega)] at p2
            have hlen : (((ys.zip l).mergeSort (dataLe false fun b => b.2)).map (·.1)).length = l.length := by rw [List.length_map, List.length_mergeSort, en]
            obtain ⟨c, hcc⟩ := sortedAll_at s.heap its out.toArray
            have nf : H (s.heap.objs.size + 1) = none := I.hok.fresh (Nat.le_succ _)
            refine ⟨.ref (s.heap.objs.size + 1), upd H (s.heap.objs.size + 1) (.lst (((ys.zip l).mergeSort (dataLe false fun b => b.2)).map (·.1))), I.laid (t' := s.toks) (fun b o e => sortedAll_old e) (Nat.le_succ _) ⟨by rw [hlen]; exact h4, out, c, p1, ?_⟩, rfl, ?_⟩
            · exact hcc
            · exact q _ Hd _ (Gr.own eh nf) ⟨_, rfl, nf, Evl.fresh_back eh nf, .lst upd_same p2 (by rw [hlen]; exact h4)⟩
      · cases hk
  · exact cr_sortedA hc hu pins s σ H xs us Q I rx ⟨Hd, _, z, eh, t, hk, q⟩
/-- what it gives: any list of tuples with a Lean type -/
theorem v_sortedM {α : Type} [DecidableEq α] [DatumOrd α] (hd : Datum.depth α ≤ 60) {xs : List α} (ht : ∀ x ∈ xs, ∃ l, (Datum.toD x : D) = .tuple l) : sortedM [.list (xs.map Datum.toD)] = some (.list ((sortT xs).map Datum.toD)) := by
  have e : sortedL (xs.map Datum.toD) = (sortT xs).map Datum.toD := by
    unfold sortedL sortT
    exact (List.map_mergeSort (f := (Datum.toD : α → D)) (r := dataLe false Datum.toD) (fun a _ b _ => rfl)).symm
  show (if _ then _ else if _ then _ else _) = _
  by_cases h : sortOk (xs.map Datum.toD) = true
  · rw [if_pos h]
    show (if _ then _ else _) = _
    rw [if_pos h, e]
  · rw [if_neg h, if_pos, e]
    unfold sortMix
    simp only [Bool.and_eq_true, List.all_map, List.all_eq_true, Function.comp_apply]
    refine ⟨⟨fun k _ => okD_map hd k, fun j hj k hk => DatumOrd.alike j k⟩, fun k hk => ?_⟩
    obtain ⟨l, e⟩ := ht k hk
    rw [e]
end
end PL

set_option Elab.async false
set_option linter.all false
set_option maxRecDepth 100000
namespace PL
open PySem PySem.Spec PyProof.Rows L2 PySem.W

/-! ### s.index(t) of texts, too -/
def indexA (d e : D) : Option D := match d, e with
  | .str x, .str y => match Builtin.Str.occurrences x y 0 x.length 1 with
    | i :: _ => some (.int (i : Nat))
    | [] => none
  | d, e => indexD d e
section
variable {X : Cx} {o e : Expr} {O : List Nat} {f g : Env → Option D} {apos cpos : Pos}
def rIxS : V → List V → Hp → VK → Prop := fun x xs H Q => ∃ (a b : Str) (i : Nat) (rest : List Nat), x = .str a ∧ xs = [.str b] ∧ Builtin.Str.occurrences a b 0 a.length 1 = i :: rest ∧ Q (.int (i : Nat)) H
theorem mt_ixS : MtR X "str.index" rIxS := by
  intro pins s σ H x xs v us Q I rx rxs h
  obtain ⟨a, b, i, rest, rfl, rfl, ho, q⟩ := h
  obtain ⟨t, rfl⟩ := rx
  cases rxs with
  | cons ry rt =>
    cases rt
    obtain ⟨u, rfl⟩ := ry
    exact call_gives PySem.F.slot_str_index (typeIs_str _ _ _) PySem.F.entry_str_index (PySem.F.args_str_index_2 _ _) (gives_str_index a b t u i rest ho) ⟨.int i, H, I.tok _, ⟨_, rfl⟩, q⟩
theorem p_indexA (hu : X.A.units + 64 < cLine) (ho : PE X o (tP X.K .bor O f)) (he : PE X e (tP X.K .bor O g)) (hbase : attributeBase o "index" X.env (eval o X.env) = eval o X.env := by rfl)
    (hfew : ((backTo cpos (starEach [e] X.env)).all (fun x => !x.1) && (backToKw cpos (keywordEach [] X.env)).all (fun x => x.1.isSome)
      && decide ([e].length + ([] : List Keyword).length + (if ([] : List Keyword).isEmpty then 0 else 1) < 30)) = true := by rfl)
    (hline : (apos.endLine == cpos.line) = true := by rfl) (hs : starEach [e] X.env = (false, eval e X.env) :: starEach [] X.env := by rfl) (hplain : (backTo cpos (starEach [] X.env)).any (·.1) = false := by rfl) :
    PE X (.Call (.Attribute o "index" apos) [e] [] cpos) (tP X.K .dat O (op2 indexA f g)) := by
  refine ⟨fun pins s σ H Q I h => ?_⟩
  obtain ⟨fc, ρ, Hd, z, S, hf, q⟩ := h
  unfold op2 at hf
  obtain ⟨d1, h1, hf⟩ := bind_some hf
  obtain ⟨d2, h2, hf⟩ := bind_some hf
  unfold indexA at hf
  split at hf
  · rename_i x y _
    split at hf
    · rename_i i rest hocc
      cases hf
      refine (pe_bm PySem.F.plainAttrs_str PySem.F.slot_str_index PySem.F.type_str_index mt_ixS ho (p_aconsB he p_anil hs) hbase hfew hline hs hplain).run pins s σ H Q I ⟨fc, ρ, Hd, _, S, h1, fun v Hd1 H1 g1 r1 => ?_⟩
      cases r1 with
      | str _ hz =>
        refine ⟨rfl, fc, ρ, Hd1, [.str y], S.grow g1, by show (g ρ).bind _ = _; rw [h2]; rfl, fun ys Hd2 H2 g2 r2 => ?_⟩
        obtain ⟨w, rfl, rw_⟩ := paired1 r2
        cases rw_ with
        | str _ hz2 => exact ⟨x, y, i, rest, rfl, rfl, hocc, q (.int (i : Int)) Hd2 H2 (g1.trans g2) (.int _)⟩
    · cases hf
  · exact (p_index hu ho he hbase hfew hline hs hplain).run pins s σ H Q I ⟨fc, ρ, Hd, z, S, by unfold op2; rw [h1]; show (g ρ).bind _ = _; rw [h2]; exact hf, q⟩
end
theorem at_one {l : List Nat} {c i : Nat} : StrLaws.At (tx l) (tx [c]) (tx l).length i ↔ l[i]? = some c := by
  unfold StrLaws.At
  rw [StrLaws.subAt_eq, tx_len, tx_len, beq_iff_eq, tx_cps, tx_cps]
  show i + 1 ≤ l.length ∧ (l.drop i).take 1 = [c] ↔ _
  constructor
  · rintro ⟨h1, h2⟩
    rw [List.drop_eq_getElem_cons (show i < l.length by omega)] at h2
    rw [List.getElem?_eq_getElem (show i < l.length by omega)]
    exact congrArg some (List.cons.inj h2).1
  · intro h
    obtain ⟨h1, h2⟩ := List.getElem?_eq_some_iff.mp h
    refine ⟨h1, ?_⟩
    rw [List.drop_eq_getElem_cons h1, h2]
    rfl
/-- the place of the first such sign -/
theorem t_index {l : List Nat} {c i : Nat} (h : l[i]? = some c) (hno : ∀ k, k < i → l[k]? ≠ some c) : indexA (tD l) (tD [c]) = some (.int (i : Int)) := by
  rcases StrLaws.occ_head (tx l) (tx [c]) 1 (Nat.le_refl _) with ⟨_, hn⟩ | ⟨j, r, e, hj, hk⟩
  · exact absurd (at_one.mpr h) (hn i)
  · have hj := at_one.mp hj
    have : j = i := by
      rcases Nat.lt_trichotomy j i with q | q | q
      · exact absurd hj (hno j q)
      · exact q
      · exact absurd (at_one.mpr h) (hk i q)
    subst this
    show (match Builtin.Str.occurrences (tx l) (tx [c]) 0 (tx l).length 1 with
      | i :: _ => some (PyData.int (i : Nat))
      | [] => none) = _
    rw [e]
end PL

set_option Elab.async false
set_option linter.all false
set_option maxRecDepth 100000
namespace PL
open PySem PySem.Spec PyProof.Rows L2 PySem.W

/-! ### xs.count(n) of a list of ints -/
def isInts (ds : List D) : Bool := ds.all fun e => match e with | .int _ => true | _ => false
def theInts (ds : List D) : List Int := ds.map fun e => match e with | .int i => i | _ => 0
def countD (d e : D) : Option D := match d, e with
  | .list ds, .int k => if isInts ds = true then some (.int (((theInts ds).count k : Nat) : Int)) else none
  | _, _ => none
theorem theInts_map (ns : List Int) : theInts (ns.map .int) = ns := by
  unfold theInts
  rw [List.map_map]
  exact (List.map_congr_left fun _ _ => rfl).trans (List.map_id _)
theorem v_count (ns : List Int) (k : Int) : countD (.list (ns.map .int)) (.int k) = some (.int ((ns.count k : Nat) : Int)) := by
  show (if isInts (ns.map .int) = true then _ else _) = _
  rw [if_pos, theInts_map]
  unfold isInts
  rw [List.all_map]
  exact List.all_eq_true.mpr fun _ _ => rfl
section
variable {X : Cx} {o e : Expr} {O : List Nat} {f g : Env → Option D} {apos cpos : Pos}
theorem p_count (ho : PE X o (tP X.K .bor O f)) (he : PE X e (tP X.K .bor O g)) (hbase : attributeBase o "count" X.env (eval o X.env) = eval o X.env := by rfl)
    (hfew : ((backTo cpos (starEach [e] X.env)).all (fun x => !x.1) && (backToKw cpos (keywordEach [] X.env)).all (fun x => x.1.isSome)
      && decide ([e].length + ([] : List Keyword).length + (if ([] : List Keyword).isEmpty then 0 else 1) < 30)) = true := by rfl)
    (hline : (apos.endLine == cpos.line) = true := by rfl) (hs : starEach [e] X.env = (false, eval e X.env) :: starEach [] X.env := by rfl) (hplain : (backTo cpos (starEach [] X.env)).any (·.1) = false := by rfl) :
    PE X (.Call (.Attribute o "count" apos) [e] [] cpos) (tP X.K .dat O (op2 countD f g)) :=
  PE.imp (pe_bm PySem.F.plainAttrs_list PySem.F.slot_list_count PySem.F.type_list_count mt_lcount ho (p_aconsB he p_anil hs) hbase hfew hline hs hplain) fun σ H Q ⟨fc, ρ, Hd, z, S, hf, q⟩ => by
    unfold op2 at hf
    obtain ⟨d1, h1, hf⟩ := bind_some hf
    obtain ⟨d2, h2, hf⟩ := bind_some hf
    unfold countD at hf
    split at hf
    · rename_i ds k _
      split at hf
      · rename_i hc
        cases hf
        obtain ⟨ns, rfl⟩ := it_ints hc
        refine ⟨fc, ρ, Hd, _, S, h1, fun v Hd1 H1 g1 r1 => ?_⟩
        cases r1 with
        | @lst a xs _ k1 k2 hz =>
          obtain rfl := rps_intsA k2
          refine ⟨.inl ⟨rfl, _, .inl k1⟩, fc, ρ, Hd1, [.int k], S.grow g1, by show (g ρ).bind _ = _; rw [h2]; rfl, fun ys Hd2 H2 g2 r2 => ?_⟩
          obtain ⟨y, rfl, ry⟩ := paired1 r2
          cases ry
          refine ⟨a, ns, k, rfl, rfl, .inl (rd_mono g2.h k1), ?_⟩
          have := q (.int ((ns.count k : Nat) : Int)) Hd2 H2 (g1.trans g2)
          rw [theInts_map] at this
          exact this (.int _)
      · cases hf
    · cases hf
end
end PL

set_option Elab.async false
set_option linter.all false
set_option maxRecDepth 100000
namespace PL
open PySem PySem.Spec PyProof.Rows L2 PySem.W

/-! ### t.index(x) of tuples, too -/
def indexB (d e : D) : Option D := match d with
  | .tuple ds => if (okD e && okD (.tuple ds) && e.canLay0 && PyData.canLayAll0 ds) = true then (ds.findIdx? fun y => PyData.eqv y e).map (fun (j : Nat) => PyData.int (j : Int)) else none
  | d => indexA d e
section
variable {X : Cx} {o e : Expr} {O : List Nat} {f g : Env → Option D} {apos cpos : Pos}
def rIxTu : V → List V → Hp → VK → Prop := fun x xs H Q => ∃ (K : PySem.W.Frag) (Hd : Hp) (a : Addr) (ys : List V) (y : V) (d : D) (ds : List D) (j : Nat), K = X.K ∧ Ex Hd H ∧ x = .ref a ∧ xs = [y] ∧ TU H a ys ∧ Rps K Hd ys ds ∧ Tp K Hd H y d ∧ okD d = true ∧ okD (.tuple ds) = true ∧ d.canLay0 = true ∧
  PyData.canLayAll0 ds = true ∧ ds.findIdx? (fun y => PyData.eqv y d) = some j ∧ Q (.int (j : Nat)) H
theorem mt_ixTu (hu : X.A.units + 64 < cLine) : MtR X "tuple.index" (rIxTu (X := X)) := by
  intro pins s σ H x xs v us Q I rx rxs h
  obtain ⟨_, Hd, a, ys, y, d, ds, j, rfl, eh, rfl, rfl, hs, rl, rd, o1, o2, c1, c2, hj0, q⟩ := h
  cases rx
  cases rxs with
  | cons ry rt =>
    rename_i uy ut
    cases rt
    have p2 := okD_plain o2
    have d2 : clnAll ds = true := cln_plainAll ds (by simpa [PyData.plain] using p2)
    obtain ⟨bs, r1⟩ := (rd.deep eh (okD_plain o1)).reads I (cln_plain _ (okD_plain o1)) uy ry
    obtain ⟨its, rv, ⟨⟨cls, dd, data, sls⟩, ho, hc, n, hdt⟩, hlen⟩ := I.tuple hs.sq
    simp only at hc hdt
    subst hc hdt
    obtain ⟨as, h4⟩ := (rl.mono eh).reads I d2 rv
    have hn : its.length = ds.length := SeqAt.ReadsAll.length ds its as h4
    have hmap : its.map (SeqAt.readOf s.heap) = ds := SeqAt.readsAll_map ds its as c2 h4
    obtain ⟨hjd, hz, hno⟩ := List.findIdx?_eq_some_iff_getElem.mp hj0
    have hj : j < its.toArray.size := by rw [List.size_toArray]; omega
    have look : ∀ (m : Nat) (hm : m < its.toArray.size) (hm2 : m < ds.length), SeqAt.readOf s.heap its.toArray[m] = ds[m] := by
      intro m hm hm2
      have e1 : (its.map (SeqAt.readOf s.heap))[m]? = ds[m]? := congrArg (·[m]?) hmap
      rw [List.getElem?_map, List.getElem?_eq_getElem (show m < its.length by omega), List.getElem?_eq_getElem hm2] at e1
      simpa using Option.some.inj e1
    have dd1 := okD_depth o1
    refine call_meets PySem.F.slot_tuple_index ⟨_, ho, rfl⟩ PySem.F.entry_tuple_index (PySem.F.args_tuple_index_2 _ _)
      (TI.tuple_indexAt a its.toArray n dd sls uy (fun u => PyData.eqv (SeqAt.readOf s.heap u) d) j hj ?_ fun m hm hmj => ?_) ⟨ho, SeqAt.items_eqAt (vs := its.toArray) (show ReadsAll s.heap its.toArray.toList ds as from h4) r1 c2 c1 (by omega), ?_⟩
    · show PyData.eqv (SeqAt.readOf s.heap its.toArray[j]) d = true
      rw [look j hj hjd]
      exact hz
    · show PyData.eqv (SeqAt.readOf s.heap its.toArray[m]) d = false
      rw [look m hm (by omega)]
      exact Bool.not_eq_true _ ▸ (by simpa using hno m hmj)
    · exact ⟨.int (j : Nat), H, I.tok _, ⟨_, rfl⟩, q⟩
theorem p_indexB (hu : X.A.units + 64 < cLine) (ho : PE X o (tP X.K .bor O f)) (he : PE X e (tP X.K .bor O g)) (hbase : attributeBase o "index" X.env (eval o X.env) = eval o X.env := by rfl)
    (hfew : ((backTo cpos (starEach [e] X.env)).all (fun x => !x.1) && (backToKw cpos (keywordEach [] X.env)).all (fun x => x.1.isSome)
      && decide ([e].length + ([] : List Keyword).length + (if ([] : List Keyword).isEmpty then 0 else 1) < 30)) = true := by rfl)
    (hline : (apos.endLine == cpos.line) = true := by rfl) (hs : starEach [e] X.env = (false, eval e X.env) :: starEach [] X.env := by rfl) (hplain : (backTo cpos (starEach [] X.env)).any (·.1) = false := by rfl) :
    PE X (.Call (.Attribute o "index" apos) [e] [] cpos) (tP X.K .dat O (op2 indexB f g)) := by
  refine ⟨fun pins s σ H Q I h => ?_⟩
  obtain ⟨fc, ρ, Hd, z, S, hf, q⟩ := h
  unfold op2 at hf
  obtain ⟨d1, h1, hf⟩ := bind_some hf
  obtain ⟨d2, h2, hf⟩ := bind_some hf
  unfold indexB at hf
  split at hf
  · rename_i ds _
    split at hf
    · rename_i hc
      obtain ⟨j, hj, rfl⟩ := Option.map_eq_some_iff.mp hf
      have q1 := Bool.and_eq_true_iff.mp hc
      have q2 := Bool.and_eq_true_iff.mp q1.1
      have q3 := Bool.and_eq_true_iff.mp q2.1
      refine wpAny_Call_method_late hbase hfew hline rfl (thn (ho.run pins s σ H (fun v H1 => ∃ Hd1, Gr Hd H Hd1 H1 ∧ Tp X.K Hd1 H1 v (.tuple ds)) I ⟨fc, ρ, Hd, _, S, h1, fun v Hd' H' g r => ⟨Hd', g, r⟩⟩) fun u s1 ⟨x, H1, I1, rx, Hd1, g1, tx⟩ => ?_)
      cases tx with
      | @tup a xs _ k1 k2 hz =>
        obtain rfl : u = Value.ref a := rx
        obtain ⟨ob, hob, hdn⟩ := tu_mono g1.s k1
        obtain ⟨e1, _, its, _, o2, e2, e3, _⟩ := (show ObjOk X.prog X.w H1 s1.heap a (.frz ob (.tup xs)) from I1.hok a _ hob)
        rw [e1] at e2
        cases e2
        refine ⟨"tuple", "tuple.index", PySem.F.plainAttrs_tuple, PySem.F.slot_tuple_index, PySem.F.type_tuple_index, ⟨ob, e1, e3⟩, fun b eb => ?_, ?_⟩
        · cases eb
          exact ⟨ob, e1, hdn⟩
        rw [hs]
        refine Calls.callWith_builtin (by show (false || (backTo cpos (starEach [] X.env)).any (·.1)) = false; rw [hplain] <;> rfl) (Calls.evalArgs_plain (Calls.spliced_cons (thn (he.run pins s1 σ H1 (fun v H2 => ∃ Hd2, Gr Hd1 H1 Hd2 H2 ∧ Tp X.K Hd2 H2 v d2) I1 ⟨fc, ρ, Hd1, _, S.grow g1, h2, fun v Hd' H' g r => ⟨Hd', g, r⟩⟩) fun iv s2 ⟨y, H2, I2, ry, Hd2, g2, ty⟩ => Calls.spliced_nil ?_)))
        exact mt_ixTu hu pins s2 σ H2 (.ref a) [y] _ _ Q I2 rfl (.cons ry .nil) ⟨X.K, Hd2, a, xs, y, d2, ds, j, rfl, g2.s, rfl, rfl, tu_mono g2.h (tu_mono g1.s k1), k2.mono g2.d, ty, q3.1, q3.2, q2.2, q1.2, hj, q (.int (j : Int)) Hd2 H2 (g1.trans g2) (.int _)⟩
    · cases hf
  · exact (p_indexA hu ho he hbase hfew hline hs hplain).run pins s σ H Q I ⟨fc, ρ, Hd, z, S, by unfold op2; rw [h1]; show (g ρ).bind _ = _; rw [h2]; exact hf, q⟩
end
end PL

set_option Elab.async false
set_option linter.all false
set_option maxRecDepth 100000
set_option maxHeartbeats 4000000
namespace PL
open PySem PySem.Spec PyProof.Rows L2 PySem.W

/-! ### tuple * int -/
section
variable (l : Addr) (items : Array Value) (n : Nat) (sl : Array (Option Value)) (dd : Option Addr) (x : Int) (u : Tok)
theorem tup_mul_same (c0 : (decide (x < -(2 ^ 63)) || decide (x ≥ 2 ^ 63)) = false) (c1 : (items.isEmpty || x == 1) = true) :
    Meets (Builtin.«tuple.__mul__» ⟨[.ref l, .int x u], []⟩) (fun _ R s => s.heap.get? l = some { cls := .type "tuple", dict := dd, data := .seq items n, slots := sl } ∧ R (.ok (.ret (Value.ref l))) s) :=
  .of_wp fun prog w A R s h => by
    obtain ⟨hp, g, d, tk, os⟩ := s
    obtain ⟨hl, h⟩ := h
    have f1 := AutoSeq1.idx_int
    wp_walk using wpAny_loadPart' hl
    repeat (first
      | (refine wpAny_ite_false (decide_eq_false (by rw [c0]; exact Bool.false_ne_true)) ?_; wp_walk using wpAny_loadPart' hl)
      | (refine wpAny_ite_true (decide_eq_true (by rw [c1])) ?_; wp_walk using wpAny_loadPart' hl))
    exact ⟨_, rfl, h⟩
theorem tup_mul_zero (c0 : (decide (x < -(2 ^ 63)) || decide (x ≥ 2 ^ 63)) = false) (c1 : (items.isEmpty || x == 1) = false) (c2 : (decide (x ≤ 0) || items.isEmpty) = true) :
    Meets (Builtin.«tuple.__mul__» ⟨[.ref l, .int x u], []⟩) (fun _ R s => s.heap.get? l = some { cls := .type "tuple", dict := dd, data := .seq items n, slots := sl } ∧
      R (.ok (.ret (Value.ref s.heap.objs.size))) { s with heap := s.heap.push { cls := .type "tuple", data := .seq #[] } }) :=
  .of_wp fun prog w A R s h => by
    obtain ⟨hp, g, d, tk, os⟩ := s
    obtain ⟨hl, h⟩ := h
    have f1 := AutoSeq1.idx_int
    wp_walk using wpAny_loadPart' hl
    repeat (first
      | (refine wpAny_ite_false (decide_eq_false (by rw [c0]; exact Bool.false_ne_true)) ?_; wp_walk using wpAny_loadPart' hl)
      | (refine wpAny_ite_false (decide_eq_false (by rw [c1]; exact Bool.false_ne_true)) ?_; wp_walk using wpAny_loadPart' hl)
      | (refine wpAny_ite_true (decide_eq_true (by rw [c2])) ?_; wp_walk using wpAny_loadPart' hl))
    exact ⟨_, rfl, h⟩
end
/-- t * k -/
def rMulT (K : PySem.W.Frag) : R2 := fun x y H Q => ∃ l k xs, x = .ref l ∧ y = .int k ∧ SqT K H l xs ∧ -1000000 ≤ k ∧ k ≤ 1000 ∧ xs.length ≤ 1000 ∧
  ((xs = [] ∨ k = 1) → Q (.ref l) H) ∧ (xs ≠ [] → k ≠ 1 → NewT H (List.replicate k.toNat xs).flatten Q)
section
variable {X : Cx}
theorem op_mulT : OpR X (binaryOp .Mult) (rMulT X.K) := by
  intro pins s σ H x y v u Q I rx ry h
  obtain ⟨l, k, xs, rfl, rfl, hT, hk0, hk1, hz, q1, q2⟩ := h
  cases rx
  obtain ⟨t, rfl⟩ := ry
  obtain ⟨its, r, ⟨⟨cls, dd, data, sl⟩, ho, hc, n, hd⟩, hs⟩ := I.tuple hT
  simp only at hc hd
  subst hc hd
  have hle : its.length = xs.length := r.length.symm
  have ie : its.toArray.isEmpty = decide (xs = []) := by
    cases its with
    | nil => rw [List.eq_nil_of_length_eq_zero (l := xs) hle.symm]; rfl
    | cons a b =>
      cases xs with
      | nil => cases hle
      | cons c d => rfl
  have c0 : (decide (k < -(2 ^ 63)) || decide (k ≥ 2 ^ 63)) = false := by rw [decide_eq_false (by omega), decide_eq_false (by omega)]; rfl
  have go : ∀ {R : Value → Shared → Prop}, wpAny (model X.prog X.w) X.A (call (.builtin "tuple.__mul__") [.ref l, .int k t]) R X.xe s → wpAny (model X.prog X.w) X.A (binaryOp .Mult (.ref l) (.int k t)) R X.xe s := fun h =>
    wpAny_binaryOp_repeat_ref (T := "tuple") (U := "int") (by decide) ⟨_, ho, rfl⟩ (fun s' => typeIs_int s' k t) noFill_tuple_mul F.fills_int_mul F.slot_int_rmul repeat_tuple F.slot_int_index.lookup
      (call_meets F.slot_int_rmul (typeIs_int s k t) F.entry_int_rmul (F.args_int_rmul_2 _ _) (int_rmul_tuple k t l its.toArray n dd sl) ⟨ho, rfl, ⟨_, ho, rfl⟩, h⟩)
  refine go ?_
  by_cases hsame : xs = [] ∨ k = 1
  · refine call_meets F.slot_tuple_mul ⟨_, ho, rfl⟩ F.entry_tuple_mul (F.args_tuple_mul_2 _ _) (tup_mul_same l its.toArray n sl dd k t c0 ?_) ⟨ho, ⟨.ref l, H, I, rfl, q1 hsame⟩⟩
    rw [ie]
    rcases hsame with h | h
    · rw [decide_eq_true h]; rfl
    · rw [h]; simp
  have hne : xs ≠ [] := fun e => hsame (.inl e)
  have hk : k ≠ 1 := fun e => hsame (.inr e)
  have c1 : (its.toArray.isEmpty || k == 1) = false := by
    rw [ie, decide_eq_false hne, Bool.false_or]
    exact beq_eq_false_iff_ne.mpr hk
  by_cases hp : k ≤ 0
  · have c2 : (decide (k ≤ 0) || its.toArray.isEmpty) = true := by rw [decide_eq_true hp]; rfl
    refine call_meets F.slot_tuple_mul ⟨_, ho, rfl⟩ F.entry_tuple_mul (F.args_tuple_mul_2 _ _) (tup_mul_zero l its.toArray n sl dd k t c0 c1 c2) ⟨ho, ?_⟩
    refine new_tup (tk := s.toks) I .nil (Nat.zero_le _) ?_
    have q := q2 hne hk
    rw [show k.toNat = 0 by omega] at q
    exact q
  have hsz0 : its.toArray.size = xs.length := by rw [List.size_toArray, hle]
  have c2 : (decide (k ≤ 0) || its.toArray.isEmpty) = false := by rw [ie, decide_eq_false hne, decide_eq_false hp]; rfl
  have hm : ((its.toArray.size : Nat) : Int) * k ≤ 1000000 := by
    have a1 : ((xs.length : Nat) : Int) * k ≤ 1000 * k := Int.mul_le_mul_of_nonneg_right (by omega) (by omega)
    rw [hsz0]
    omega
  have flen : (List.replicate k.toNat its).flatten.length ≤ sizeLine := by
    have a1 : k.toNat * xs.length ≤ 1000 * 1000 := Nat.mul_le_mul (by omega) hz
    rw [PyProof.Rows.lm_len_rep_flat, hle, sizeLine_eq]
    omega
  have c4 : Builtin.Tuple.tupleTooMany (((its.toArray.size : Nat) : Int) * k) = false := by
    unfold Builtin.Tuple.tupleTooMany
    exact decide_eq_false (by rw [sizeLine_eq]; omega)
  refine call_meets F.slot_tuple_mul ⟨_, ho, rfl⟩ F.entry_tuple_mul (F.args_tuple_mul_2 _ _) (tuple_mulW l its.toArray n dd sl k t c0 c1 c2 (by omega) c4 (by rw [size_rep, List.size_toArray]; exact flen)) ⟨ho, ?_⟩
  rw [size_rep]
  exact new_tup (tk := s.toks) I (r.rep k.toNat) (by rw [PyProof.Rows.lm_len_rep_flat, ← hle, ← PyProof.Rows.lm_len_rep_flat]; exact flen) (q2 hne hk)
def mul3D : D → D → Option D
  | .tuple ds, .int k => if -1000000 ≤ k ∧ k ≤ 1000 ∧ ds.length ≤ 1000 then some (.tuple (List.replicate k.toNat ds).flatten) else none
  | d, e => mul2D d e
def rMul3 (K : PySem.W.Frag) : R2 := fun x y H Q => rMulT K x y H Q ∨ rMul2 x y H Q
theorem op_mul3 : OpR X (binaryOp .Mult) (rMul3 X.K) := OpR.or op_mulT op_mul2
theorem ok_mul3 {K : PySem.W.Frag} : Op2 K (rMul3 K) mul3D .dat := fun Hd H x y d e z Q eh tx ty hk q => by
  unfold mul3D at hk
  split at hk
  · split at hk
    · rename_i ds k hc
      cases hk
      cases ty
      cases tx with
      | @tup a xs _ h1 h2 hz =>
        have ln := line_is
        have l1 := h2.length
        refine .inl ⟨a, k, xs, rfl, rfl, (tu_mono eh h1).sq, hc.1, hc.2.1, by omega, fun w => ?_, fun n1 n2 p o hp ho => q _ _ _ (Gr.dat eh hp) (.tup (TU.new ho) ((h2.rep _).mono (ex_upd (Evl.fresh_back eh hp))) ?_)⟩
        · have e1 : (List.replicate k.toNat ds).flatten = ds := by
            rcases w with rfl | rfl
            · cases h2
              simp
            · simp
          rw [e1] at q
          exact q _ Hd H (Gr.refl eh) (.tup h1 h2 hz)
        · have a1 : k.toNat * xs.length ≤ 1000 * 1000 := Nat.mul_le_mul (by omega) (by omega)
          rw [PyProof.Rows.lm_len_rep_flat]
          omega
    · cases hk
  · exact .inr (ok_mul2 Hd H x y _ _ z Q eh tx ty hk q)
/-! a tuple that is made to be a key -/
def ktup (as : Env → Option (List D)) : Env → Option D := fun ρ => (as ρ).bind fun ds => some (kt ds)
def ktupE (as : Env → Option (List D × Env)) : Env → Option (D × Env) := fun ρ => (as ρ).bind fun ds => some (kt ds.1, ds.2)
variable {es : List Expr} {O : List Nat} {as : Env → Option (List D)} {ase : Env → Option (List D × Env)} {pos : Pos} {n : Nat}
theorem p_ktup {x1} (ha : PA X es (tPs X.K .dat O as)) (hl : LenA as n) (hn : n ≤ 1000 := by decide) : PE X (.Tuple es x1 pos) (tP X.K .dat O (ktup as)) := PE.imp (pe_tup ha) fun σ H Q ⟨fc, ρ, Hd, z, S, hf, q⟩ => by
  unfold ktup at hf
  obtain ⟨ds, h1, hf⟩ := bind_some hf
  cases hf
  refine ⟨fc, ρ, Hd, ds, S, h1, fun vs Hd1 H1 g1 r1 => ?_⟩
  have hz : vs.length ≤ sizeLine := by rw [Rps.length r1, hl _ _ h1]; exact small_line hn
  exact ⟨hz, fun p hp => q _ _ _ (g1.trans (Gr.dat g1.s hp)) (.kt upd_same (Rps.mono (ex_upd (Evl.fresh_back g1.s hp)) r1) hz)⟩
theorem p_ktupE {x1} (ha : PA X es (tEs X.K O ase)) (hl : LenE ase n) (hn : n ≤ 1000 := by decide) : PE X (.Tuple es x1 pos) (tE X.K O (ktupE ase)) := PE.imp (pe_tup ha) fun σ H Q ⟨fc, ρ, Hd, z, ρ', S, hf, q⟩ => by
  unfold ktupE at hf
  obtain ⟨ds, h1, hf⟩ := bind_some hf
  cases hf
  refine ⟨fc, ρ, Hd, ds.1, ds.2, S, h1, fun vs Hd1 H1 S1 e1 r1 => ?_⟩
  have hz : vs.length ≤ sizeLine := by rw [Rps.length r1, hl _ _ h1]; exact small_line hn
  have g := fun {p : Addr} (hp : H1 p = none) => Gr.dat (o := .tup vs) S1.sub hp
  exact ⟨hz, fun p hp => q _ _ _ (S1.grow (g hp)) (e1.trans (g hp).d) (.kt upd_same (Rps.mono (g hp).d r1) hz)⟩
end
end PL

set_option Elab.async false
set_option linter.all false
set_option maxRecDepth 100000
namespace PL
open PySem PySem.Spec PyProof.Rows L2 PySem.W

/-! ### == of dicts whose keys are ints or texts and whose values are plain -/
def eqDD (a b : List (D × D)) : Bool := a.length == b.length && a.all fun p => match dgetD b p.1 with
  | some v => PyData.eqv p.2 v
  | none => false
def dataDict (a : List (D × D)) : Bool := a.all fun p => isKey p.1 && okD p.2
def eqX (d e : D) : Option Bool := match d, e with
  | .dict a, .dict b => if (dataDict a && dataDict b) = true then some (eqDD a b) else none
  | d, e => eqB d e
def neX (d e : D) : Option Bool := match d, e with
  | .dict a, .dict b => if (dataDict a && dataDict b) = true then some (!eqDD a b) else none
  | d, e => neB d e
section
variable {X : Cx} {pins : List (Addr × Obj)} {σ : L2.St} {H : Hp} {s : Shared} {A : Around}
theorem dict_at (I : L2.Inv X pins σ H s) {v : V} {a : List (D × D)} (t : Tp X.K H H v (.dict a)) (ok : dataDict a = true) :
    ∃ (p : Addr) (kvs : List (Key × V)) (vs : List (Key × Value)) (ds : List D), v = .ref p ∧ (p == sysModules) = false ∧ KV kvs vs ∧ s.heap.DictOf (mixKind X.prog X.w) p vs ∧ Rps X.K H (kvs.map (·.2)) ds ∧ a = (kvs.map fun p => keyD p.1).zip ds ∧ ds.all okD = true := by
  have oks : ∀ {κ : Type} {l : List κ} {ds : List D} {enc : κ → D}, l.length = ds.length → dataDict ((l.map enc).zip ds) = true → ds.all okD = true := fun {κ l ds enc} hl h => by
    refine List.all_eq_true.mpr fun d hd => ?_
    have e : (((l.map enc).zip ds).map (·.2)) = ds := List.map_snd_zip (by rw [List.length_map]; omega)
    rw [← e] at hd
    obtain ⟨q, hq, rfl⟩ := List.mem_map.mp hd
    exact (Bool.and_eq_true_iff.mp (List.all_eq_true.mp h q hq)).2
  cases t with
  | @scr p ns h1 => simp [dataDict, isKey] at ok
  | @kt p xs ds h1 h2 h3 => simp [dataDict, isKey] at ok
  | @dK p kvs ds h1 h2 =>
    obtain ⟨_, hd, vs, rel, dd⟩ := dk_rd I.hok h1
    have hl := h2.length
    rw [List.length_map] at hl
    refine ⟨p, kvs, vs, ds, rfl, hd, rel, dd, h2, rfl, ?_⟩
    have ok' : dataDict ((kvs.map fun p => keyD p.1).zip ds) = true := ok
    exact oks (enc := fun p : Key × V => keyD p.1) hl ok'
  | @dT p kvs ds h1 h2 =>
    cases kvs with
    | nil =>
      obtain ⟨_, hd, xs, rel, dd⟩ := dt_rd I.hok h1
      exact ⟨p, [], [], [], rfl, hd, .nil, emptyK rel dd, .nil, rfl, rfl⟩
    | cons q r =>
      cases h2 with
      | cons r1 r2 =>
        rw [List.map_cons, List.zip_cons_cons] at ok
        simp [dataDict, keysD, isKey] at ok
theorem hits_data (I : L2.Inv X pins σ H s) (hu : A.units + 62 < cLine) {ls : List (Key × V)} {vb : List (Key × Value)} {es : List D} (rb : KV ls vb) (re : Rps X.K H (ls.map (·.2)) es) (oe : es.all okD = true) :
    ∀ {ks : List (Key × V)} {va : List (Key × Value)} {ds : List D}, KV ks va → Rps X.K H (ks.map (·.2)) ds → ds.all okD = true →
      PySem.W.KeqHitsP X.prog X.w A s vb va (((ks.map fun p => keyD p.1).zip ds).all fun p => match dgetD ((ls.map fun p => keyD p.1).zip es) p.1 with
        | some v => PyData.eqv p.2 v
        | none => false)
  | [], _, _, .nil, .nil, _ => .nil
  | p :: ks, q :: va, d :: ds, .cons h t, .cons r1 r2, od => by
    obtain ⟨k, v⟩ := p
    obtain ⟨k2, v2⟩ := q
    have e1 : k = k2 := h.1
    subst e1
    rw [List.all_cons, Bool.and_eq_true] at od
    have ih := hits_data I hu rb re oe t r2 od.2
    rw [List.map_cons, List.zip_cons_cons, List.all_cons]
    have rv : RelO (valV ls k) (valueAt vb k) := rb.val k
    rcases dget_gen eqv_key k re with ⟨n1, n2⟩ | ⟨w, e, n1, n2, rw_⟩
    · rw [n2]
      rw [n1] at rv
      show PySem.W.KeqHitsP X.prog X.w A s vb ((k, v2) :: va) (false && _)
      rw [Bool.false_and]
      exact .miss rv.none_of
    · rw [n2]
      rw [n1] at rv
      obtain ⟨y, hy, ry⟩ := rv.some_of
      have oe' : okD e = true := by
        unfold dgetD at n2
        obtain ⟨z, hz, rfl⟩ := Option.map_eq_some_iff.mp n2
        exact List.all_eq_true.mp oe _ (List.of_mem_zip (List.mem_of_find?_eq_some hz)).2
      obtain ⟨as, r3⟩ := r1.reads I (cln_plain _ (okD_plain od.1)) v2 h.2
      obtain ⟨bs, r4⟩ := rw_.reads I (cln_plain _ (okD_plain oe')) y ry
      have := okD_depth od.1
      exact .hit hy (SeqAt.eqAt_plain d e A s v2 y as bs r3 r4 (okD_plain od.1) (okD_plain oe') (by omega)).eqP ih
theorem rc_ne_dicts {K : Type} [DecidableEq K] {prog : Program} {w : World} {knd : PySem.KeyKind prog w K} {a b : Addr} {ka kb : List (K × Value)} {r : Bool} (ha : (a == sysModules) = false) (hb : (b == sysModules) = false)
    (da : s.heap.DictOf knd a ka) (db : s.heap.DictOf knd b kb) (hu : A.units < cLine) (hits : ka.length = kb.length → PySem.W.KeqHitsP prog w A.in1 s kb ka r) (E Q : Value → Shared → Prop) (h : Q (.bool (!(ka.length == kb.length && r))) s) :
    wpAny (model prog w) A (richCompare .NotEq (.ref a) (.ref b)) Q E s := by
  refine wpAny_richCompare_same_room (op := .NotEq) da.typeIs db.typeIs PySem.F.slot_dict_ne (wpAny_call_entry PySem.F.slot_dict_ne da.typeIs PySem.F.entry_dict_ne ?_ (PySem.F.args_dict_ne_2 _ _)) hu
  show wpAny _ _ (Builtin.Dict.dictSlotArgs "__ne__" ⟨[.ref a, .ref b], []⟩ >>= _) _ _ s
  unfold Builtin.Dict.dictSlotArgs
  refine wpAny_bind (wpAny_bind (wpAny_notOrdered_dict da.typeIs (show wpAny _ _ (pure (Value.ref a, Value.ref b)) _ _ s from wpAny_pure ?_)))
  refine wpAny_bind (wpAny_isInstance (T := "dict") db.typeIs PySem.F.sub_dict_dict ?_)
  simp only [Bool.not_true, Bool.false_eq_true, if_false]
  refine wpAny_bind (wpAny_pure (wpAny_bind (wpAny_pure (wpAny_bind (PySem.W.samePairsP ha hb da db hits (wpAny_pure ⟨_, rfl, (fun x => nomatch x), ?_⟩))))))
  revert h
  cases (ka.length == kb.length && r) <;> exact id
theorem len_eq {ks ls : List (Key × V)} {va vb : List (Key × Value)} {ds es : List D} (r1 : KV ks va) (r2 : KV ls vb) (l1 : ks.length = ds.length) (l2 : ls.length = es.length) :
    (va.length == vb.length) = (((ks.map fun p => keyD p.1).zip ds).length == ((ls.map fun p => keyD p.1).zip es).length) := by
  have e1 := r1.length
  have e2 := r2.length
  rw [List.length_zip, List.length_zip, List.length_map, List.length_map, ← l1, ← l2, Nat.min_self, Nat.min_self, e1, e2]
theorem op_eqX (hu : X.A.units + 64 < cLine) : OpR X (compareOp .Eq) (rB X.K eqX) := by
  intro pins s σ H x y v u Q I rx ry ⟨d, e, b, hd, he, hg, q⟩
  unfold eqX at hg
  split at hg
  · split at hg
    · rename_i a b hc
      cases hg
      have c := Bool.and_eq_true_iff.mp hc
      obtain ⟨p, ks, va, ds, rfl, np, r1, d1, m1, rfl, o1⟩ := dict_at I hd c.1
      obtain ⟨p2, ls, vb, es, rfl, np2, r2, d2, m2, rfl, o2⟩ := dict_at I he c.2
      cases rx
      cases ry
      have l1 := m1.length
      have l2 := m2.length
      rw [List.length_map] at l1 l2
      refine PySem.W.rcP_dicts np np2 d1 d2 (by omega) (fun _ => hits_data I (A := X.A.in1) (by show X.A.units + 1 + 62 < cLine; omega) r2 m2 o2 r1 m1 o1) _ _ ⟨.bl _, H, I, rfl, ?_⟩
      rw [len_eq r1 r2 l1 l2]
      exact q
    · cases hg
  · exact op_eqB hu pins s σ H x y v u Q I rx ry ⟨_, _, b, hd, he, hg, q⟩
theorem op_neX (hu : X.A.units + 64 < cLine) : OpR X (compareOp .NotEq) (rB X.K neX) := by
  intro pins s σ H x y v u Q I rx ry ⟨d, e, b, hd, he, hg, q⟩
  unfold neX at hg
  split at hg
  · split at hg
    · rename_i a b hc
      cases hg
      have c := Bool.and_eq_true_iff.mp hc
      obtain ⟨p, ks, va, ds, rfl, np, r1, d1, m1, rfl, o1⟩ := dict_at I hd c.1
      obtain ⟨p2, ls, vb, es, rfl, np2, r2, d2, m2, rfl, o2⟩ := dict_at I he c.2
      cases rx
      cases ry
      have l1 := m1.length
      have l2 := m2.length
      rw [List.length_map] at l1 l2
      refine rc_ne_dicts np np2 d1 d2 (by omega) (fun _ => hits_data I (A := X.A.in1) (by show X.A.units + 1 + 62 < cLine; omega) r2 m2 o2 r1 m1 o1) _ _ ⟨.bl _, H, I, rfl, ?_⟩
      rw [len_eq r1 r2 l1 l2]
      exact q
    · cases hg
  · exact op_neB hu pins s σ H x y v u Q I rx ry ⟨_, _, b, hd, he, hg, q⟩
end
end PL

set_option Elab.async false
set_option linter.all false
set_option maxRecDepth 100000
namespace PL
open PySem PySem.Spec PyProof.Rows L2 PySem.W

/-! ### numbers from 0 on -/
instance : Datum Nat where
  toD n := .int (n : Int)
  plain _ := rfl
  eqv a b := by
    show PyData.eqv (Datum.toD (a : Int)) (Datum.toD (b : Int)) = _
    rw [Datum.eqv]
    exact decide_eq_decide.mpr Int.natCast_inj
  depth := 0
  depth_le _ := Nat.le_refl _
instance : DatumOrd Nat where
  lt a b := decide (a < b)
  alike a b := DatumOrd.alike (a : Int) (b : Int)
  notNone a := fun e => nomatch e
  lt_eq a b := by
    show dataLt (Datum.toD (a : Int)) (Datum.toD (b : Int)) = _
    rw [DatumOrd.lt_eq]
    exact decide_eq_decide.mpr Int.ofNat_lt
instance : DKey Nat := ⟨.inl fun _ => rfl⟩
theorem leT_nat {a b : Nat} : leT a b = true ↔ a ≤ b := by
  rw [leT_lt]
  show (!decide (b < a)) = true ↔ _
  simp
theorem modN (a b : Nat) (h : 0 < b) : modD (nD a) (nD b) = some (nD (a % b)) := (v_modI _ _ (by omega)).trans (by rw [← Int.natCast_emod])
theorem fdivN (a b : Nat) (h : 0 < b) (h2 : b < 1073741824) : fdivD (nD a) (nD b) = some (nD (a / b)) := (v_fdivI _ _ (by omega)).trans (by rw [← Int.natCast_ediv])
theorem mulN (a b : Nat) (h : b < 18446744073709551616) : mul2D (nD a) (nD b) = some (nD (a * b)) := (v_mulI _ _ (.inr (by omega))).trans (by rw [← Int.natCast_mul])
theorem addN (a b : Nat) : addA (nD a) (nD b) = some (nD (a + b)) := (v_addI _ _).trans (by rw [← Int.natCast_add])
theorem subN (a b : Nat) (h : b ≤ a) : subD (nD a) (nD b) = some (nD (a - b)) := (v_subI _ _).trans (by rw [← Int.ofNat_sub h])
theorem eqN (a b : Nat) : eqB (nD a) (nD b) = some (decide (a = b)) := (v_eqI _ _).trans (congrArg some (decide_eq_decide.mpr Int.natCast_inj))
theorem neN (a b : Nat) : neB (nD a) (nD b) = some (!decide (a = b)) := (v_neI _ _).trans (congrArg (fun x => some (!x)) (decide_eq_decide.mpr Int.natCast_inj))
theorem ltN (a b : Nat) : ltB (nD a) (nD b) = some (decide (a < b)) := (v_ltI _ _).trans (congrArg some (decide_eq_decide.mpr Int.ofNat_lt))
theorem gtN (a b : Nat) : gtB (nD a) (nD b) = some (decide (b < a)) := (v_gtI _ _).trans (congrArg some (decide_eq_decide.mpr Int.ofNat_lt))
theorem leN (a b : Nat) : leB (nD a) (nD b) = some (decide (a ≤ b)) := (v_leI _ _).trans (congrArg some (decide_eq_decide.mpr Int.ofNat_le))
theorem geN (a b : Nat) : geB (nD a) (nD b) = some (decide (b ≤ a)) := (v_geI _ _).trans (congrArg some (decide_eq_decide.mpr Int.ofNat_le))
theorem rngN (n : Nat) (h : n ≤ 16777216) : rngD [nD n] = some ((List.range n).map nD) := v_rng1 n h
/-- range(a, b) -/
theorem rngN2 {a b : Nat} (h1 : a ≤ 1000000) (h2 : b ≤ 1000000) : rngD [nD a, nD b] = some ((List.range' a (b - a)).map nD) := by
  show (if -16777216 ≤ (a : Int) ∧ (a : Int) ≤ 16777216 ∧ -16777216 ≤ (b : Int) ∧ (b : Int) ≤ 16777216 ∧ ((b : Int) - a).toNat ≤ 16777216 then some (rngL (a : Int) ((b : Int) - a).toNat) else none) = _
  rw [if_pos (by omega), show ((b : Int) - a).toNat = b - a by omega]
  unfold rngL
  rw [List.range'_eq_map_range, List.map_map]
  refine congrArg some (List.map_congr_left fun i _ => ?_)
  show PyData.int ((a : Int) + i) = PyData.int ((a + i : Nat) : Int)
  rw [Int.natCast_add]
abbrev lD (l : List Nat) : D := .list (l.map nD)
abbrev uD (l : List Nat) : D := .tuple (l.map nD)
theorem v_sortedN (L : List Nat) : sortedA [lD L] = some (lD (sortT L)) := v_sorted (by decide) (.inr fun _ _ => rfl)
theorem v_sortedTN (L : List Nat) : sortedA [uD L] = some (lD (sortT L)) := v_sortedT (by decide) (.inr fun _ _ => rfl)
theorem sortN_le (L : List Nat) : (sortT L).Pairwise (· ≤ ·) := (sortT_sorted L).imp leT_nat.mp
theorem sortN_of {L M : List Nat} (h : M.Pairwise (· ≤ ·)) (p : M.Perm L) : sortT L = M := by
  rw [← sortT_perm p]
  exact sortT_id (h.imp leT_nat.mpr)
theorem sortN_lt {L : List Nat} (h : L.Nodup) : (sortT L).Pairwise (· < ·) := by
  have h1 := sortN_le L
  have h2 := (sortT_self_perm L).nodup_iff.mpr h
  exact (h1.and h2).imp fun ⟨a, b⟩ => by omega
theorem eq_lD (a b : List Nat) : eqB (lD a) (lD b) = some (decide (a = b)) := eq_dat (α := List Nat) (by decide) a b
theorem ne_lD (a b : List Nat) : neB (lD a) (lD b) = some (!decide (a = b)) := ne_dat (α := List Nat) (by decide) a b
theorem eqv_nat (a b : Nat) : PyData.eqv (nD a) (nD b) = decide (a = b) := Datum.eqv (α := Nat) a b
theorem okD_lD (l : List Nat) : okD (lD l) = true := okD_map (α := List Nat) (by decide) l
theorem eqvAll_nat : ∀ a b : List Nat, PyData.eqvAll (a.map nD) (b.map nD) = decide (a = b)
  | [], [] => rfl
  | [], _ :: _ => rfl
  | _ :: _, [] => rfl
  | a :: as, b :: bs => by
    rw [List.map_cons, List.map_cons, PyData.eqvAll, eqv_nat, eqvAll_nat as bs, ← Bool.decide_and]
    exact decide_eq_decide.mpr (by rw [List.cons.injEq])
theorem plainAll_nat : ∀ l : List Nat, PyData.plainAll (l.map nD) = true
  | [] => rfl
  | _ :: l => by
    rw [List.map_cons, PyData.plainAll, plainAll_nat l]
    rfl
theorem depthAll_nat : ∀ l : List Nat, PyData.depthAll (l.map nD) = 0
  | [] => rfl
  | _ :: l => by
    rw [List.map_cons, PyData.depthAll, depthAll_nat l]
    rfl
theorem okD_uD (l : List Nat) : okD (uD l) = true := by
  unfold okD
  rw [Bool.and_eq_true]
  constructor
  · show PyData.plain (.tuple (l.map nD)) = true
    rw [PyData.plain]
    exact plainAll_nat l
  · refine decide_eq_true ?_
    show PyData.depth (.tuple (l.map nD)) ≤ 60
    rw [PyData.depth, depthAll_nat]
    decide
theorem eq_uD (a b : List Nat) : eqB (uD a) (uD b) = some (decide (a = b)) := by
  unfold eqB
  rw [okD_uD, okD_uD]
  show some (PyData.eqv (.tuple (a.map nD)) (.tuple (b.map nD))) = _
  rw [PyData.eqv, eqvAll_nat]
theorem ne_uD (a b : List Nat) : neB (uD a) (uD b) = some (!decide (a = b)) := by
  unfold neB
  rw [okD_uD, okD_uD]
  show some (!PyData.eqv (.tuple (a.map nD)) (.tuple (b.map nD))) = _
  rw [PyData.eqv, eqvAll_nat]
theorem in_lD (x : Nat) (xs : List Nat) : inB (nD x) (lD xs) = some (decide (x ∈ xs)) := in_datL (α := Nat) (by decide) x xs
theorem in_uD (x : Nat) (xs : List Nat) : inB (nD x) (uD xs) = some (decide (x ∈ xs)) := in_datT (α := Nat) (by decide) x xs
theorem lay_nat : ∀ (l : List Nat), PyData.canLayAll0 (l.map nD) = true
  | [] => rfl
  | x :: xs => by
    show (PyData.canLay0 (nD x) && PyData.canLayAll0 (xs.map nD)) = true
    rw [lay_nat xs]
    rfl
/-- the first place of x -/
def idx {α : Type} [DecidableEq α] (l : List α) (x : α) : Nat := l.findIdx fun y => decide (y = x)
theorem idx_lt {α : Type} [DecidableEq α] {l : List α} {x : α} (h : x ∈ l) : idx l x < l.length := List.findIdx_lt_length_of_exists ⟨x, h, decide_eq_true rfl⟩
theorem idx_at {α : Type} [DecidableEq α] {l : List α} {x : α} (h : x ∈ l) : l[idx l x]'(idx_lt h) = x := of_decide_eq_true (List.findIdx_getElem (p := fun y => decide (y = x)) (w := idx_lt h))
theorem idx_inj {α : Type} [DecidableEq α] {l : List α} {x y : α} (hx : x ∈ l) (hy : y ∈ l) (e : idx l x = idx l y) : x = y := by
  rw [← idx_at hx, ← idx_at hy]
  congr 1
theorem idx_get {α : Type} [DecidableEq α] {l : List α} (h : l.Nodup) {i : Nat} (hi : i < l.length) : idx l l[i] = i := (List.getElem_inj h (h₀ := idx_lt (List.getElem_mem hi)) (h₁ := hi)).mp (idx_at (List.getElem_mem hi))
theorem indexB_gen {α : Type} [DecidableEq α] [Datum α] (hd : Datum.depth α ≤ 50) (l : List α) (m : α) (h : m ∈ l) (hl : PyData.canLayAll0 (l.map Datum.toD) = true) (hm : (Datum.toD m).canLay0 = true) :
    indexB (.tuple (l.map Datum.toD)) (Datum.toD m) = some (nD (idx l m)) := by
  have o1 : okD (Datum.toD m) = true := okD_dat (by omega) m
  have o2 : okD (.tuple (l.map Datum.toD)) = true := by
    unfold okD
    rw [Bool.and_eq_true]
    constructor
    · simp only [PyData.plain]
      exact plainAll_map l
    · refine decide_eq_true ?_
      show PyData.depth (.tuple (l.map Datum.toD)) ≤ 60
      rw [PyData.depth]
      have := depthAll_map l
      omega
  show (if (okD (Datum.toD m) && okD (.tuple (l.map Datum.toD)) && (Datum.toD m).canLay0 && PyData.canLayAll0 (l.map Datum.toD)) = true then ((l.map Datum.toD).findIdx? fun y => PyData.eqv y (Datum.toD m)).map (fun (j : Nat) => PyData.int (j : Int)) else none) = _
  rw [if_pos (by rw [o1, o2, hl, hm]; rfl), List.findIdx?_map]
  have e : ((fun y => PyData.eqv y (Datum.toD m)) ∘ Datum.toD) = fun y : α => decide (y = m) := by
    funext y
    exact Datum.eqv y m
  rw [e, List.findIdx?_eq_some_iff_findIdx_eq.mpr ⟨idx_lt h, rfl⟩]
  rfl
/-- u.index(x) of numbers -/
theorem indexN (l : List Nat) (m : Nat) (h : m ∈ l) : indexB (uD l) (nD m) = some (nD (idx l m)) := indexB_gen (α := Nat) (by decide) l m h (lay_nat l) rfl
theorem v_maxT {α : Type} [DecidableEq α] [DatumOrd α] (hd : Datum.depth α ≤ 60) (x : α) (xs : List α) : maxDD [.tuple ((x :: xs).map Datum.toD)] = some (Datum.toD (maxOf x xs)) := v_maxL hd x xs
theorem ixN {α : Type} {enc : α → D} {l : List α} {i : Nat} {x : α} (h : l[i]? = some x) : ixA (.list (l.map enc)) (nD i) = some (enc x) := v_ixL (by rw [List.getElem?_map, h]; rfl)
theorem ixuN {α : Type} {enc : α → D} {l : List α} {i : Nat} {x : α} (h : l[i]? = some x) : ixA (.tuple (l.map enc)) (nD i) = some (enc x) := v_ixT (by rw [List.getElem?_map, h]; rfl)
theorem maxN_le (x : Nat) (xs : List Nat) : x ≤ maxOf x xs ∧ (∀ y ∈ xs, y ≤ maxOf x xs) ∧ (maxOf x xs = x ∨ maxOf x xs ∈ xs) := by
  obtain ⟨h1, h2⟩ := maxOf_spec xs x
  exact ⟨leT_nat.mp (h2 x List.mem_cons_self), fun y hy => leT_nat.mp (h2 y (.tail _ hy)), (List.mem_cons.mp h1)⟩
end PL

set_option Elab.async false
set_option linter.all false
set_option maxRecDepth 100000
namespace PL
open PySem PySem.Spec PyProof.Rows L2 PySem.W

/-! ### steps without simp: numbers from 0 on -/
section
variable {f g h : Env → Option D} {ρ ρ1 : Env} {a b c n : Nat} {x y z : D} {P : Fl → Env → Prop} {s2 : Env → Option (Fl × Env)} {i j : Nat} {ds : List D}
theorem nx_add (hf : f ρ = some (nD a)) (hg : g ρ = some (nD b)) : op2 addA f g ρ = some (nD (a + b)) := by rw [ev_op2 hf hg, addN]
theorem nx_sub (hf : f ρ = some (nD a)) (hg : g ρ = some (nD b)) (h : b ≤ a) : op2 subD f g ρ = some (nD (a - b)) := by rw [ev_op2 hf hg, subN _ _ h]
theorem nx_mul (hf : f ρ = some (nD a)) (hg : g ρ = some (nD b)) (h : b < 18446744073709551616) : op2 mul2D f g ρ = some (nD (a * b)) := by rw [ev_op2 hf hg, mulN _ _ h]
theorem nx_fdiv (hf : f ρ = some (nD a)) (hg : g ρ = some (nD b)) (h : 0 < b) (h2 : b < 1073741824) : op2 fdivD f g ρ = some (nD (a / b)) := by rw [ev_op2 hf hg, fdivN _ _ h h2]
theorem nx_mod (hf : f ρ = some (nD a)) (hg : g ρ = some (nD b)) (h : 0 < b) : op2 modD f g ρ = some (nD (a % b)) := by rw [ev_op2 hf hg, modN _ _ h]
/-- a comparison's value -/
theorem nx_cv {k : D → D → Option Bool} {r : Bool} (hf : f ρ = some x) (hg : g ρ = some y) (h : k x y = some r) : op2 (bD k) f g ρ = some (.bool r) := by
  rw [ev_op2 hf hg]
  show (k x y).map PyData.bool = _
  rw [h]
  rfl
/-- a comparison as a test -/
theorem nx_ct {k : D → D → Option Bool} {r : Bool} (hf : f ρ = some x) (hg : g ρ = some y) (h : k x y = some r) : tru (op2 (bD k) f g) ρ = some r := by
  rw [e_tru, nx_cv hf hg h]
  rfl
theorem nx_in {r : Bool} (hf : f ρ = some x) (hg : g ρ = some y) (h : inB x y = some r) : tru (op2 (bD inB) f g) ρ = some r := nx_ct hf hg h
theorem nx_nin {r : Bool} (hf : f ρ = some x) (hg : g ρ = some y) (h : inB x y = some r) : tru (op2 (bD (notB inB)) f g) ρ = some (!r) := nx_ct hf hg (by show (inB x y).map _ = _; rw [h]; rfl)
theorem nx_eq (hf : f ρ = some (nD a)) (hg : g ρ = some (nD b)) : tru (op2 (bD eqB) f g) ρ = some (decide (a = b)) := nx_ct hf hg (eqN a b)
theorem nx_ne (hf : f ρ = some (nD a)) (hg : g ρ = some (nD b)) : tru (op2 (bD neB) f g) ρ = some (!decide (a = b)) := nx_ct hf hg (neN a b)
theorem nx_lt (hf : f ρ = some (nD a)) (hg : g ρ = some (nD b)) : tru (op2 (bD ltB) f g) ρ = some (decide (a < b)) := nx_ct hf hg (PL.ltN a b)
theorem nx_gt (hf : f ρ = some (nD a)) (hg : g ρ = some (nD b)) : tru (op2 (bD gtB) f g) ρ = some (decide (b < a)) := nx_ct hf hg (gtN a b)
theorem nx_le (hf : f ρ = some (nD a)) (hg : g ρ = some (nD b)) : tru (op2 (bD leB) f g) ρ = some (decide (a ≤ b)) := nx_ct hf hg (leN a b)
theorem nx_ge (hf : f ρ = some (nD a)) (hg : g ρ = some (nD b)) : tru (op2 (bD geB) f g) ρ = some (decide (b ≤ a)) := nx_ct hf hg (geN a b)
theorem nx_rng (hf : f ρ = some (nD n)) (h : n ≤ 16777216) : rng (acons f anil) ρ = some ((List.range n).map nD) := by
  show (acons f anil ρ).bind rngD = _
  rw [e_acons, hf, Option.bind_some, e_anil, Option.bind_some, Option.bind_some, rngN _ h]
theorem nx_rng2 (hf : f ρ = some (nD a)) (hg : g ρ = some (nD b)) (h1 : a ≤ 1000000) (h2 : b ≤ 1000000) : rng (acons f (acons g anil)) ρ = some ((List.range' a (b - a)).map nD) := by
  show (acons f (acons g anil) ρ).bind rngD = _
  rw [e_acons, hf, Option.bind_some, e_acons, hg, Option.bind_some, e_anil, Option.bind_some, Option.bind_some, Option.bind_some, rngN2 h1 h2]
theorem nx_len {α : Type} {enc : α → D} {l : List α} (hf : f ρ = some (.list (l.map enc))) : fn lenD (acons f anil) ρ = some (nD l.length) := by
  rw [ev_fn1 hf]
  show some (PyData.int ((l.map enc).length : Nat)) = _
  rw [List.length_map]
theorem nx_lenT {α : Type} {enc : α → D} {l : List α} (hf : f ρ = some (.tuple (l.map enc))) : fn lenD (acons f anil) ρ = some (nD l.length) := by
  rw [ev_fn1 hf]
  show some (PyData.int ((l.map enc).length : Nat)) = _
  rw [List.length_map]
theorem nx_ix {α : Type} {enc : α → D} {l : List α} {v : α} (hf : f ρ = some (.list (l.map enc))) (hg : g ρ = some (nD i)) (h : l[i]? = some v) : op2 ixA f g ρ = some (enc v) := by rw [ev_op2 hf hg, PL.ixN h]
theorem nx_ixT {α : Type} {enc : α → D} {l : List α} {v : α} (hf : f ρ = some (.tuple (l.map enc))) (hg : g ρ = some (nD i)) (h : l[i]? = some v) : op2 ixA f g ρ = some (enc v) := by rw [ev_op2 hf hg, ixuN h]
theorem nx_tupL (hf : f ρ = some (.list ds)) : fn tupleD (acons f anil) ρ = some (.tuple ds) := by rw [ev_fn1 hf]; rfl
theorem nx_lstT (hf : f ρ = some (.tuple ds)) : fn listD (acons f anil) ρ = some (.list ds) := by rw [ev_fn1 hf]; rfl
theorem nx_tup2 (hf : f ρ = some x) (hg : g ρ = some y) : tup (acons f (acons g anil)) ρ = some (.tuple [x, y]) := by rw [e_tup, e_acons, hf, Option.bind_some, e_acons, hg, Option.bind_some, e_anil]; rfl
theorem nx_tup1 (hf : f ρ = some x) : tup (acons f anil) ρ = some (.tuple [x]) := by rw [e_tup, e_acons, hf, Option.bind_some, e_anil]; rfl
theorem nx_tup3 (hf : f ρ = some x) (hg : g ρ = some y) (hh : h ρ = some z) : tup (acons f (acons g (acons h anil))) ρ = some (.tuple [x, y, z]) := by rw [e_tup, e_acons, hf, Option.bind_some, e_acons, hg, Option.bind_some, e_acons, hh, Option.bind_some, e_anil]; rfl
theorem nx_lst1 (hf : f ρ = some x) : lst (acons f anil) ρ = some (.list [x]) := by rw [e_lst, e_acons, hf, Option.bind_some, e_anil]; rfl
theorem nx_catL {xs ys : List D} (hf : f ρ = some (.list xs)) (hg : g ρ = some (.list ys)) (h : xs.length + ys.length ≤ 16777216) : op2 addA f g ρ = some (.list (xs ++ ys)) := by rw [ev_op2 hf hg, v_addL _ _ h]
theorem nx_catT {xs ys : List D} (hf : f ρ = some (.tuple xs)) (hg : g ρ = some (.tuple ys)) (h : xs.length + ys.length ≤ 16777216) : op2 addA f g ρ = some (.tuple (xs ++ ys)) := by rw [ev_op2 hf hg, v_addT _ _ h]
theorem nx_an : anil ρ = some [] := rfl
theorem nx_ac {as : Env → Option (List D)} {ds : List D} {x : D} (hf : f ρ = some x) (ha : as ρ = some ds) : acons f as ρ = some (x :: ds) := by rw [e_acons, hf, Option.bind_some, ha]; rfl
theorem nx_lst {as : Env → Option (List D)} {ds : List D} (ha : as ρ = some ds) : lst as ρ = some (.list ds) := by rw [e_lst, ha]; rfl
theorem nx_tup {as : Env → Option (List D)} {ds : List D} (ha : as ρ = some ds) : tup as ρ = some (.tuple ds) := by rw [e_tup, ha]; rfl
theorem nx_ifE1 {t : Env → Option Bool} (ht : t ρ = some true) (hf : f ρ = some x) : ifE t f g ρ = some x := by rw [e_ifE, ht, Option.bind_some]; exact hf
theorem nx_ifE0 {t : Env → Option Bool} (ht : t ρ = some false) (hg : g ρ = some x) : ifE t f g ρ = some x := by rw [e_ifE, ht, Option.bind_some]; exact hg
theorem nx_ifE {t : Env → Option Bool} {r : Bool} (ht : t ρ = some r) (hf : r = true → f ρ = some x) (hg : r = false → g ρ = some y) : ifE t f g ρ = some (if r then x else y) := by
  cases r with
  | true => exact nx_ifE1 ht (hf rfl)
  | false => exact nx_ifE0 ht (hg rfl)
section
variable {t t2 : Env → Option Bool} {r r2 : Bool}
theorem nx_not (ht : t ρ = some r) : notT t ρ = some (!r) := by rw [e_notT, ht]; rfl
theorem nx_and (ht : t ρ = some r) (h2 : r = true → t2 ρ = some r2) : andT t t2 ρ = some (r && r2) := by
  cases r with
  | true => rw [e_andT, ht, Option.bind_some, if_pos rfl, h2 rfl]; rfl
  | false => rw [e_andT, ht]; rfl
theorem nx_or (ht : t ρ = some r) (h2 : r = false → t2 ρ = some r2) : orT t t2 ρ = some (r || r2) := by
  cases r with
  | true => rw [e_orT, ht]; rfl
  | false => rw [e_orT, ht, Option.bind_some, if_neg Bool.false_ne_true, h2 rfl]; rfl
theorem nx_andV (hf : f ρ = some (.bool r)) (hg : r = true → g ρ = some (.bool r2)) : andV f g ρ = some (.bool (r && r2)) := by
  cases r with
  | true =>
    rw [e_andV, hf]
    exact hg rfl
  | false => rw [e_andV, hf]; rfl
theorem nx_orV (hf : f ρ = some (.bool r)) (hg : r = false → g ρ = some (.bool r2)) : orV f g ρ = some (.bool (r || r2)) := by
  cases r with
  | true => rw [e_orV, hf]; rfl
  | false =>
    rw [e_orV, hf]
    exact hg rfl
theorem nx_notV (hf : f ρ = some (.bool r)) : op1 notD f ρ = some (.bool (!r)) := by rw [e_op1, hf]; rfl
theorem nx_tru (hf : f ρ = some (.bool r)) : tru f ρ = some r := by rw [e_tru, hf]; rfl
theorem nx_chn {k1 k2 : D → D → Option Bool} (hf : f ρ = some x) (hg : g ρ = some y) (h1 : k1 x y = some r) (h2 : r = true → ∃ z, h ρ = some z ∧ k2 y z = some r2) : chn (bD k1) (bD k2) f g h ρ = some (.bool (r && r2)) := by
  rw [e_chn, hf, Option.bind_some, hg, Option.bind_some]
  show ((k1 x y).map PyData.bool).bind _ = _
  rw [h1]
  cases r with
  | true =>
    obtain ⟨z, h3, h4⟩ := h2 rfl
    show ((h ρ).bind fun w => (k2 y w).map PyData.bool) = _
    rw [h3, Option.bind_some, h4]
    rfl
  | false => rfl
end
/-! statements -/
theorem Ok.app {fe : Env → Option D} {ds : List D} {v : D} (h0 : var i ρ = some (.list ds)) (hv : fe ρ = some v) (hl : ds.length < 16777216) (k : Ok s2 (ρ.set i (some (.list (ds ++ [v])))) P) : Ok (seqS (exprS (mutL i appendD (aconsE (up fe) anilE))) s2) ρ P := by
  refine Ok.nx (ρ1 := ρ.set i (some (.list (ds ++ [v])))) ?_ k
  rw [e_exprS, e_mutL, h0, Option.bind_some, v_isL, Option.bind_some, e_aconsE, e_up, hv, Option.bind_some, Option.bind_some, e_anilE, Option.bind_some, Option.bind_some]
  show ((var i ρ).bind _).bind _ = _
  rw [h0, Option.bind_some]
  show ((appendD (.list ds) [v]).bind _).bind _ = _
  rw [v_append _ _ hl]
  rfl
theorem Ok.app1 {fe : Env → Option D} {ds : List D} {v : D} (h0 : var i ρ = some (.list ds)) (hv : fe ρ = some v) (hl : ds.length < 16777216) (k : P .nx (ρ.set i (some (.list (ds ++ [v]))))) : Ok (exprS (mutL i appendD (aconsE (up fe) anilE))) ρ P := by
  refine Ok.one (fl := .nx) (ρ1 := ρ.set i (some (.list (ds ++ [v])))) ?_ k
  rw [e_exprS, e_mutL, h0, Option.bind_some, v_isL, Option.bind_some, e_aconsE, e_up, hv, Option.bind_some, Option.bind_some, e_anilE, Option.bind_some, Option.bind_some]
  show ((var i ρ).bind _).bind _ = _
  rw [h0, Option.bind_some]
  show ((appendD (.list ds) [v]).bind _).bind _ = _
  rw [v_append _ _ hl]
  rfl
theorem Ok.asg1 {d : D} (hf : f ρ = some d) (k : P .nx (ρ.set j (some d))) : Ok (asgS j f) ρ P := Ok.one (by rw [e_asgS, hf]; rfl) k
theorem Ok.par2 {d e : D} (hf : f ρ = some d) (hg : g ρ = some e) (k : Ok s2 ((ρ.set i (some d)).set j (some e)) P) : Ok (seqS (parS [i, j] (aconsE (up f) (aconsE (up g) anilE))) s2) ρ P := by
  refine Ok.nx ?_ k
  rw [e_parS, e_aconsE, e_up, hf, Option.bind_some, Option.bind_some, e_aconsE, e_up, hg, Option.bind_some, Option.bind_some, e_anilE]
  rfl
theorem Ok.par2l {d e : D} (hf : f ρ = some d) (hg : g ρ = some e) (k : P .nx ((ρ.set i (some d)).set j (some e))) : Ok (parS [i, j] (aconsE (up f) (aconsE (up g) anilE))) ρ P := by
  refine Ok.one (fl := .nx) ?_ k
  rw [e_parS, e_aconsE, e_up, hf, Option.bind_some, Option.bind_some, e_aconsE, e_up, hg, Option.bind_some, Option.bind_some, e_anilE]
  rfl
theorem Ok.par3 {l : Nat} {d e u : D} (hf : f ρ = some d) (hg : g ρ = some e) (hh : h ρ = some u) (k : Ok s2 (((ρ.set i (some d)).set j (some e)).set l (some u)) P) : Ok (seqS (parS [i, j, l] (aconsE (up f) (aconsE (up g) (aconsE (up h) anilE)))) s2) ρ P := by
  refine Ok.nx ?_ k
  rw [e_parS, e_aconsE, e_up, hf, Option.bind_some, Option.bind_some, e_aconsE, e_up, hg, Option.bind_some, Option.bind_some, e_aconsE, e_up, hh, Option.bind_some, Option.bind_some, e_anilE]
  rfl
theorem Ok.inc (h0 : var j ρ = some (nD a)) (hf : f ρ = some (nD b)) (k : P .nx (ρ.set j (some (nD (a + b))))) : Ok (augN j (iopD fun i j => i + j) (up f)) ρ P := by
  refine Ok.one (fl := .nx) (ρ1 := ρ.set j (some (nD (a + b)))) ?_ k
  rw [e_augN, h0, Option.bind_some, e_up, hf, Option.bind_some, Option.bind_some]
  show (some (PyData.int ((a : Int) + (b : Int)))).bind _ = _
  rw [← Int.natCast_add]
  rfl
theorem Ok.incs (h0 : var j ρ = some (nD a)) (hf : f ρ = some (nD b)) (k : Ok s2 (ρ.set j (some (nD (a + b)))) P) : Ok (seqS (augN j (iopD fun i j => i + j) (up f)) s2) ρ P := by
  refine Ok.nx (ρ1 := ρ.set j (some (nD (a + b)))) ?_ k
  rw [e_augN, h0, Option.bind_some, e_up, hf, Option.bind_some, Option.bind_some]
  show (some (PyData.int ((a : Int) + (b : Int)))).bind _ = _
  rw [← Int.natCast_add]
  rfl
theorem Ok.put {d d' v k : D} (h0 : var j ρ = some d) (hf : f ρ = some v) (hg : g ρ = some k) (hp : putD d k v = some d') (K : P .nx (ρ.set j (some d'))) : Ok (putS j (up g) (up f)) ρ P := by
  refine Ok.one (fl := .nx) (ρ1 := ρ.set j (some d')) ?_ K
  rw [e_putS, e_up, hf, Option.bind_some, Option.bind_some, h0, Option.bind_some, e_up, hg, Option.bind_some, Option.bind_some, h0, Option.bind_some, hp]
  rfl
theorem Ok.puts {d d' v k : D} (h0 : var j ρ = some d) (hf : f ρ = some v) (hg : g ρ = some k) (hp : putD d k v = some d') (K : Ok s2 (ρ.set j (some d')) P) : Ok (seqS (putS j (up g) (up f)) s2) ρ P := by
  refine Ok.nx (ρ1 := ρ.set j (some d')) ?_ K
  rw [e_putS, e_up, hf, Option.bind_some, Option.bind_some, h0, Option.bind_some, e_up, hg, Option.bind_some, Option.bind_some, h0, Option.bind_some, hp]
  rfl
end
theorem gd_itemsN {β : Type} (A : List (Nat × β)) (f : β → D) (hz : A.length ≤ 16777216) : itemsA (gD A f) = some (A.map fun p => nD p.1) := by
  show (if ((A.map fun p => (Datum.toD p.1, f p.2)).all fun p => keyZ p.1) = true ∧ (A.map fun p => ((Datum.toD p.1 : D), f p.2)).length ≤ 16777216 then some ((A.map fun p => ((Datum.toD p.1 : D), f p.2)).map (·.1)) else none).or (ktL (A.map fun p => ((Datum.toD p.1 : D), f p.2))) = _
  have h1 : ((A.map fun p => ((Datum.toD p.1 : D), f p.2)).all fun p => keyZ p.1) = true := by
    rw [List.all_map]
    exact List.all_eq_true.mpr fun p hp => rfl
  rw [if_pos ⟨h1, by rw [List.length_map]; exact hz⟩, List.map_map]
  rfl
theorem gd_sortN {β : Type} (A : List (Nat × β)) (f : β → D) : sortedA [gD A f] = some (lD (sortT (A.map (·.1)))) := by
  have e : (A.map fun p => ((Datum.toD p.1 : D), f p.2)).map (·.1) = (A.map (·.1)).map Datum.toD := by
    rw [List.map_map, List.map_map]
    rfl
  show (if ((A.map fun p => ((Datum.toD p.1 : D), f p.2)).all fun p => keyZ p.1) = true ∧ sortOk ((A.map fun p => ((Datum.toD p.1 : D), f p.2)).map (·.1)) = true then some (PyData.list (sortedL ((A.map fun p => ((Datum.toD p.1 : D), f p.2)).map (·.1)))) else none) = _
  have h1 : ((A.map fun p => ((Datum.toD p.1 : D), f p.2)).all fun p => keyZ p.1) = true := by
    rw [List.all_map]
    exact List.all_eq_true.mpr fun p hp => rfl
  rw [e, if_pos ⟨h1, sortOk_map (by decide) (.inr fun _ _ => rfl)⟩, sortL_map]
  rfl
theorem gd_lenN {β : Type} : ∀ (A : List (Nat × β)) (f : β → D), lenD [gD A f] = some (nD A.length)
  | [], f => rfl
  | [p], f => rfl
  | p :: q :: A, f => by
    show (if ((p :: q :: A).map fun p => ((Datum.toD p.1 : D), f p.2)).all (fun p => nonN p.1) = true then some (PyData.int (((p :: q :: A).map fun p => ((Datum.toD p.1 : D), f p.2)).length : Int)) else none) = _
    have h : ((p :: q :: A).map fun p => ((Datum.toD p.1 : D), f p.2)).all (fun p => nonN p.1) = true := by
      rw [List.all_map]
      exact List.all_eq_true.mpr fun p _ => rfl
    rw [if_pos h, List.length_map]
theorem gd_clnN {β : Type} (f : β → D) : ∀ A : List (Nat × β), (∀ p ∈ A, cln (f p.2) = true) → cln (gD A f) = true := by
  intro A h
  show clnKv _ = true
  induction A with
  | nil => rfl
  | cons p A ih =>
    show (cln (f p.2) && clnKv (A.map fun p => ((Datum.toD p.1 : D), f p.2))) = true
    rw [h p List.mem_cons_self, ih fun q hq => h q (.tail _ hq)]
    rfl
theorem cln_uD (l : List Nat) : cln (uD l) = true := cln_plain _ (okD_plain (okD_uD l))
theorem cln_lD (l : List Nat) : cln (lD l) = true := cln_plain _ (okD_plain (okD_lD l))
end PL

set_option Elab.async false
set_option linter.all false
set_option maxRecDepth 100000
set_option maxHeartbeats 4000000
namespace PL
open PySem PySem.Spec PyProof.Rows L2 PySem.W

/-! ### min and max of two texts -/
def ltTx (a b : Str) : Bool := decide (a.cps.toList < b.cps.toList)
def txV (p : Str × Tok) : Value := .str p.1 p.2
def txAt (vs : List (Str × Tok)) (i : Nat) : Str := ((vs[i]?).map (·.1)).getD ⟨#[]⟩
theorem tx_lt {prog : Program} {w : World} {A : Around} (vs : List (Str × Tok)) : CmpOf prog w A .Lt (fun i v => (vs.map txV).toArray[i]? = some v) (fun i j => ltTx (txAt vs i) (txAt vs j)) := fun i j vi vj s Q E hi hj h => by
  have hi : (vs.map txV).toArray[i]? = some vi := hi
  have hj : (vs.map txV).toArray[j]? = some vj := hj
  rw [List.getElem?_toArray, List.getElem?_map] at hi hj
  obtain ⟨p, h1, rfl⟩ := Option.map_eq_some_iff.mp hi
  obtain ⟨q, h2, rfl⟩ := Option.map_eq_some_iff.mp hj
  have h : Q (.bool (ltTx (txAt vs i) (txAt vs j))) s := h
  unfold txAt at h
  rw [h1, h2] at h
  exact PySem.P.lt_str h
theorem tx_gt {prog : Program} {w : World} {A : Around} (vs : List (Str × Tok)) : CmpOf prog w A .Gt (fun i v => (vs.map txV).toArray[i]? = some v) (fun i j => ltTx (txAt vs j) (txAt vs i)) := fun i j vi vj s Q E hi hj h => by
  have hi : (vs.map txV).toArray[i]? = some vi := hi
  have hj : (vs.map txV).toArray[j]? = some vj := hj
  rw [List.getElem?_toArray, List.getElem?_map] at hi hj
  obtain ⟨p, h1, rfl⟩ := Option.map_eq_some_iff.mp hi
  obtain ⟨q, h2, rfl⟩ := Option.map_eq_some_iff.mp hj
  have h : Q (.bool (ltTx (txAt vs j) (txAt vs i))) s := h
  unfold txAt at h
  rw [h1, h2] at h
  exact PySem.P.gt_str h
section
variable {prog : Program} {w : World} {A : Around} {E : Value → Shared → Prop} {s : Shared} {Q : Value → Shared → Prop} {a b : Str} {t u : Tok}
theorem best_two {bt : Nat → Nat → Bool} {p q : Str × Tok} {v : Value} (h : (([p, q].map txV).toArray)[argBest bt 1]? = some v) : v = if bt 1 0 = true then txV q else txV p := by
  have e : argBest bt 1 = if bt 1 0 = true then 1 else 0 := rfl
  rw [e] at h
  cases hb : bt 1 0 with
  | true =>
    rw [hb, if_pos rfl] at h
    rw [if_pos rfl]
    exact (Option.some.inj h).symm
  | false =>
    rw [hb, if_neg Bool.false_ne_true] at h
    rw [if_neg Bool.false_ne_true]
    exact (Option.some.inj h).symm
theorem two_texts (gt : Bool) (bt : Nat → Nat → Bool) (hh : A.handled = none) (hcmp : CmpOf prog w A.in1 (if gt then .Gt else .Lt) (fun i v => (([(a, t), (b, u)]).map txV).toArray[i]? = some v) bt)
    (h : ∀ h' tk, (∀ c o, s.heap.get? c = some o → h'.get? c = some o) → Q (if bt 1 0 = true then .str b u else .str a t) { s with heap := h', toks := tk }) :
    wpAny (model prog w) A (call (.builtin (if gt then "max" else "min")) [.str a t, .str b u]) Q E s := by
  have hT : (s.heap.push { cls := .type "tuple", data := .seq #[.str a t, .str b u] }).IsTuple s.heap.objs.size (([(a, t), (b, u)]).map txV).toArray := ⟨_, Heap.get?_push_size _ rfl, rfl, 0, rfl⟩
  have hsz : (s.heap.push { cls := .type "tuple", data := .seq #[.str a t, .str b u] }).objs.size = s.heap.objs.size + 1 := Heap.size_push ..
  cases gt with
  | false =>
    refine call_min_two (wpAny_pyIter_tuple hT ?_)
    refine ⟨_, [_, s.heap.objs.size], [_], _, _, _, _, rfl, Walks.tuple (A := A.in1) hh _ s.heap.objs.size (by rw [hsz]; exact Nat.ne_of_lt (Nat.lt_succ_self _)) (([(a, t), (b, u)]).map txV).toArray,
      ⟨⟨_, Heap.get?_push_size _ rfl, rfl, rfl⟩, hT.push _⟩, fun c hc => ?_, by simp, hcmp, fun v h' tk hP hk => ?_⟩
    · show c < ((s.heap.push _).push _).objs.size
      rw [Heap.size_push, hsz]
      rcases List.mem_cons.mp hc with rfl | hc
      · rw [hsz]; exact Nat.lt_succ_self _
      · rcases List.mem_cons.mp hc with rfl | hc
        · exact Nat.lt_succ_of_lt (Nat.lt_succ_self _)
        · cases hc
    · have hold : ∀ c o, s.heap.get? c = some o → h'.get? c = some o := fun c o e => by
        refine hk c o (fun hm => ?_) (Heap.get?_push_of_some _ (Heap.get?_push_of_some _ e))
        rcases List.mem_cons.mp hm with e1 | hm
        · have := Heap.lt_size e; rw [e1, hsz] at this; exact Nat.lt_irrefl _ (Nat.lt_of_succ_lt this)
        · cases hm
      have := h h' tk hold
      rw [best_two (p := (a, t)) (q := (b, u)) hP]
      exact this
  | true =>
    refine call_max_two (wpAny_pyIter_tuple hT ?_)
    refine ⟨_, [_, s.heap.objs.size], [_], _, _, _, _, rfl, Walks.tuple (A := A.in1) hh _ s.heap.objs.size (by rw [hsz]; exact Nat.ne_of_lt (Nat.lt_succ_self _)) (([(a, t), (b, u)]).map txV).toArray,
      ⟨⟨_, Heap.get?_push_size _ rfl, rfl, rfl⟩, hT.push _⟩, fun c hc => ?_, by simp, hcmp, fun v h' tk hP hk => ?_⟩
    · show c < ((s.heap.push _).push _).objs.size
      rw [Heap.size_push, hsz]
      rcases List.mem_cons.mp hc with rfl | hc
      · rw [hsz]; exact Nat.lt_succ_self _
      · rcases List.mem_cons.mp hc with rfl | hc
        · exact Nat.lt_succ_of_lt (Nat.lt_succ_self _)
        · cases hc
    · have hold : ∀ c o, s.heap.get? c = some o → h'.get? c = some o := fun c o e => by
        refine hk c o (fun hm => ?_) (Heap.get?_push_of_some _ (Heap.get?_push_of_some _ e))
        rcases List.mem_cons.mp hm with e1 | hm
        · have := Heap.lt_size e; rw [e1, hsz] at this; exact Nat.lt_irrefl _ (Nat.lt_of_succ_lt this)
        · cases hm
      have := h h' tk hold
      rw [best_two (p := (a, t)) (q := (b, u)) hP]
      exact this
end
def min2D : List D → Option D
  | [.str a, .str b] => some (.str (if ltTx b a = true then b else a))
  | ds => minDD ds
def max2D : List D → Option D
  | [.str a, .str b] => some (.str (if ltTx a b = true then b else a))
  | ds => maxDD ds
section
variable {X : Cx}
theorem pick_str {a b : Str} {t u : Tok} {c : Bool} : ∃ k, (if c = true then Value.str b u else Value.str a t) = .str (if c = true then b else a) k := by
  cases c with
  | true => exact ⟨u, rfl⟩
  | false => exact ⟨t, rfl⟩
theorem pick_rp {K : PySem.W.Frag} {Hd : Hp} {a b : Str} (c : Bool) (ha : a.length ≤ sizeLine) (hb : b.length ≤ sizeLine) : Rp K Hd (.str (if c = true then b else a)) (.str (if c = true then b else a)) := Rp.str (if c = true then b else a) (by cases c <;> assumption)
theorem cr_min2D (hc : X.calm = true) (hu : X.A.units + 64 < cLine) : CallR X (.builtin "min") (rN X.K min2D .dat) := by
  intro pins s σ H xs us Q I rx h
  have h' := h
  obtain ⟨Hd, ds, z, eh, t, hk, q⟩ := h
  unfold min2D at hk
  split at hk
  · rename_i a b
    cases hk
    obtain ⟨x, y, rfl, tx, ty⟩ := paired2 t
    rcases tx with ⟨⟩
    rename_i ha
    rcases ty with ⟨⟩
    rename_i hb
    obtain ⟨u, w', rfl, ⟨t1, rfl⟩, ⟨t2, rfl⟩⟩ := vals2 rx
    refine two_texts false (fun i j => ltTx (txAt [(a, t1), (b, t2)] i) (txAt [(a, t1), (b, t2)] j)) (I.ok.hd hc) (tx_lt _) fun h' tk k => ⟨.str (if ltTx b a = true then b else a), H, I.kept k, ?_, q _ Hd H (Gr.refl eh) (pick_rp (ltTx b a) (by assumption) (by assumption))⟩
    exact pick_str (c := ltTx b a)
  · exact cr_minD hc hu pins s σ H xs us Q I rx ⟨Hd, ds, z, eh, t, hk, q⟩
theorem cr_max2D (hc : X.calm = true) (hu : X.A.units + 64 < cLine) : CallR X (.builtin "max") (rN X.K max2D .dat) := by
  intro pins s σ H xs us Q I rx h
  have h' := h
  obtain ⟨Hd, ds, z, eh, t, hk, q⟩ := h
  unfold max2D at hk
  split at hk
  · rename_i a b
    cases hk
    obtain ⟨x, y, rfl, tx, ty⟩ := paired2 t
    rcases tx with ⟨⟩
    rename_i ha
    rcases ty with ⟨⟩
    rename_i hb
    obtain ⟨u, w', rfl, ⟨t1, rfl⟩, ⟨t2, rfl⟩⟩ := vals2 rx
    refine two_texts true (fun i j => ltTx (txAt [(a, t1), (b, t2)] j) (txAt [(a, t1), (b, t2)] i)) (I.ok.hd hc) (tx_gt _) fun h' tk k => ⟨.str (if ltTx a b = true then b else a), H, I.kept k, ?_, q _ Hd H (Gr.refl eh) (pick_rp (ltTx a b) (by assumption) (by assumption))⟩
    exact pick_str (c := ltTx a b)
  · exact cr_maxD hc hu pins s σ H xs us Q I rx ⟨Hd, ds, z, eh, t, hk, q⟩
end
end PL

set_option Elab.async false
set_option linter.all false
set_option maxRecDepth 100000
set_option maxHeartbeats 4000000
namespace PL
open PySem PySem.Spec PyProof.Rows L2 PySem.W

/-! ### tuple(d), list(d) of a dict, list(text) -/
section
variable {prog : Program} {w : World} {A : Around} {E : Value → Shared → Prop} {s : Shared} {d : Addr} {n : Nat} {P : Nat → Value → Prop} {OK : Heap → Prop}
theorem code_tuple_dict {Q₁ : Value → Shared → Prop} (K : KdlSrc prog w "dict" d d n P OK) (hh : A.handled = none) (hok : OK s.heap) (hn : n ≤ sizeLine)
    (h : ∀ (h' : Heap) (tk : Nat) (acc : Array Value), (∀ b o, s.heap.get? b = some o → h'.get? b = some o) → ItemsOf P acc n → Q₁ (.ref h'.objs.size) { s with heap := h'.push { cls := .type "tuple", data := .seq acc }, toks := tk }) :
    codeAny (model prog w) A (.call (.builtin "tuple.__new__") ⟨[.type "tuple", .ref d], []⟩) (wants Q₁ E) s := by
  refine codeAny_of_tree ?_
  show wpAny _ A.in1 (do checkBuiltinCall "tuple.__new__" ⟨[.type "tuple", .ref d], []⟩; again (.builtin "tuple.__new__" ⟨[.type "tuple", .ref d], []⟩)) _ _ s
  refine wpAny_bind (wpAny_of_eq (PySem.F.newCall_tuple_1 _) (wpAny_pure ⟨plainId_quiet PySem.F.plain_tuple_new _, codeAny_builtin PySem.F.entry_tuple_new ?_⟩))
  rw [Around.under_plainId PySem.F.plain_tuple_new _]
  have hsub := sub_tuple_self
  have hinit := init_tuple_lookup
  have hmh := madeHere_tuple
  have hTI : s.TypeIs (.ref d) "dict" := K.type s hok
  have hh1 : A.in1.in1.handled = none := hh
  have hh2 : A.in1.handled = none := hh
  wp_walk using wpAny_typeOf hTI, PySem.W.kdu_collect (A := A.in1) K hh2 hok hn, PySem.W.kdu_collect (A := A) K hh hok hn, PySem.W.kdu_collect (A := A.in1.in1) K hh1 hok hn
  intro h' tk acc hk hacc
  show wpAny _ _ (Builtin.Tuple.tupleExact acc.toList.toArray >>= fun v => ret v) _ _ _
  unfold Builtin.Tuple.tupleExact
  refine wpAny_bind (wpAny_newObj_type ?_ (by show acc.toList.toArray.size ≤ sizeLine; simp only [Array.toArray_toList]; rw [hacc.1]; exact hn))
  refine wpAny_pure ?_
  have e : acc.toList.toArray = acc := by simp
  rw [e]
  exact h h' tk acc hk hacc
theorem call_tuple_dict {Q : Value → Shared → Prop} (K : KdlSrc prog w "dict" d d n P OK) (hh : A.handled = none) (hok : OK s.heap) (hn : n ≤ sizeLine)
    (hQ : ∀ (h' : Heap) (tk : Nat) (acc : Array Value), (∀ b o, s.heap.get? b = some o → h'.get? b = some o) → ItemsOf P acc n → Q (.ref h'.objs.size) { s with heap := h'.push { cls := .type "tuple", data := .seq acc }, toks := tk }) :
    wpAny (model prog w) A (call (.type "tuple") [.ref d]) Q E s := by
  refine callType_codes (Q₁ := fun obj s₁ => s₁.TypeIs obj "tuple" ∧ Q obj s₁) PySem.F.called_tuple (PySem.F.typeCall_tuple_1 _) PySem.F.entry_object_init
    (code_tuple_dict (A := A.in1) K hh hok hn fun h' tk acc hk hacc => ⟨⟨_, Heap.get?_push_size _ rfl, rfl⟩, hQ h' tk acc hk hacc⟩) fun obj s₁ h₁ => ?_
  exact ⟨h₁.1, PySem.F.args_object_init_2 obj _, object_init_meets PySem.F.called_tuple.init.lookup PySem.F.called_tuple.made (by decide) prog w A.in1 _ s₁ ⟨h₁.1, rfl, h₁.2⟩⟩
end
def tupleA : List D → Option D
  | [.dict (kv :: kvs)] => if ((kv :: kvs).all fun p => keyZ p.1) = true then some (.tuple ((kv :: kvs).map (·.1))) else none
  | ds => tupleD ds
def listA : List D → Option D
  | [.dict (kv :: kvs)] => if ((kv :: kvs).all fun p => keyZ p.1) = true then some (.list ((kv :: kvs).map (·.1))) else none
  | [.str z] => some (.list (z.cps.toList.map fun c => .str ⟨#[c]⟩))
  | ds => listD ds
section
variable {X : Cx}
theorem one_rps {K : PySem.W.Frag} {Hd : Hp} : ∀ cs : List Nat, Rps K Hd (cs.map fun c => V.str ⟨#[c]⟩) (cs.map fun c => PyData.str ⟨#[c]⟩)
  | [] => .nil
  | c :: cs => .cons (.str _ (by show 1 ≤ sizeLine; rw [sizeLine_eq]; decide)) (one_rps cs)
/-- a dict with plain keys, at least one -/
theorem dict_src {Hd H : Hp} {x : V} {kv : D × D} {kvs : List (D × D)} {pins : List (Addr × Obj)} {σ : L2.St} {s : Shared} (I : L2.Inv X pins σ H s) (hs : ((kv :: kvs).all fun p => keyZ p.1) = true) (tx : Tp X.K Hd H x (.dict (kv :: kvs))) :
    ∃ (a : Addr) (ks : List Key) (vs : List (Key × Value)) (ep : Nat), x = .ref a ∧ (a == sysModules) = false ∧ s.heap.DictAt (mixKind X.prog X.w) a vs ep ∧ vs.length ≤ sizeLine ∧ ks.length = vs.length ∧ ks = vs.map (·.1) ∧ (kv :: kvs).map (·.1) = ks.map keyD ∧ Rps X.K Hd (ks.map kV) (ks.map keyD) := by
  generalize hg : kv :: kvs = K at hs tx
  cases tx with
  | @scr a ns h1 => simp [keyZ] at hs
  | @kt a xs ds h1 h2 h3 => simp [keyZ] at hs
  | @dK a ws ds h1 h2 =>
    obtain ⟨z, lo, vs, rel, dd⟩ := dk_rd I.hok h1
    obtain ⟨ep, hat⟩ := dd.dictAt
    have hll := h2.length
    rw [List.length_map] at hll
    have ek : ((ws.map fun p => keyD p.1).zip ds).map (·.1) = (ws.map (·.1)).map keyD := by rw [List.map_fst_zip (by rw [List.length_map]; omega), List.map_map]; rfl
    have ekz : ∀ k ∈ ws.map (·.1), keyZ (keyD k) = true := fun k hk => by
      have hm : keyD k ∈ ((ws.map fun p => keyD p.1).zip ds).map (·.1) := by rw [ek]; exact List.mem_map_of_mem hk
      obtain ⟨y, hy, ey⟩ := List.mem_map.mp hm
      rw [← ey]
      exact List.all_eq_true.mp hs y hy
    exact ⟨a, ws.map (·.1), vs, ep, rfl, lo, hat, by rw [← rel.length]; exact z, by rw [List.length_map]; exact rel.length, rel.keys, ek, keyZ_rps ekz⟩
  | @dT a ws ds h1 h2 =>
    cases ws with
    | nil => cases hg
    | cons p ws =>
      cases h2 with
      | cons r1 r2 =>
        rw [List.map_cons, List.zip_cons_cons, List.all_cons, keyZ_key] at hs
        simp at hs
theorem src_items {P : Program} {w : World} {vs : List (Key × Value)} {acc : Array Value} (h : ItemsOf (fun i v => ∃ k x, vs[i]? = some (k, x) ∧ (mixKind P w).is k v = true) acc vs.length) : Vals ((vs.map (·.1)).map kV) acc.toList := by
  have hi : ItemsAre (mixKind P w) (vs.map (·.1)) acc.toList := cr_sortedA.items_of (by rw [Array.length_toList, h.1, List.length_map]) fun i v hv => by
    obtain ⟨k, x, a1, a2⟩ := h.2 i v (by rw [← Array.getElem?_toList]; exact hv)
    exact ⟨k, by rw [List.getElem?_map, a1]; rfl, a2⟩
  exact items_vals hi
theorem cr_tupleA (hc : X.calm = true) : CallR X (.type "tuple") (rN X.K tupleA .dat) := by
  intro pins s σ H xs us Q I rx h
  obtain ⟨Hd, ds, z, eh, t, hk, q⟩ := h
  unfold tupleA at hk
  split at hk
  · rename_i kv kvs
    split at hk
    · rename_i hs
      cases hk
      obtain ⟨x, rfl, tx⟩ := paired1 t
      obtain ⟨u, rfl, ru⟩ := vals1 rx
      obtain ⟨a, ks, vs, ep, rfl, lo, hat, hz, hl, hks, he, hr⟩ := dict_src I hs tx
      cases ru
      refine call_tuple_dict (PySem.W.kdl_dict (knd := mixKind X.prog X.w) (kvs := vs) (ep := ep) lo) (I.ok.hd hc) hat hz fun h' tk acc kp hacc => ?_
      have hv := src_items hacc
      rw [← hks] at hv
      have hz2 : (ks.map kV).length ≤ sizeLine := by rw [List.length_map, hl]; exact hz
      rw [he] at q
      exact new_tup (s := { s with heap := h', toks := s.toks }) (tk := tk) (I.kept (t' := s.toks) kp) hv hz2 fun p o hp ho => q _ _ _ (Gr.dat eh hp) (.tup (TU.new ho) (hr.mono (ex_upd (Evl.fresh_back eh hp))) hz2)
    · cases hk
  · exact cr_tupleD pins s σ H xs us Q I rx ⟨Hd, ds, z, eh, t, hk, q⟩
theorem cr_listA (hc : X.calm = true) : CallR X (.type "list") (rN X.K listA .fre) := by
  intro pins s σ H xs us Q I rx h
  obtain ⟨Hd, ds, z, eh, t, hk, q⟩ := h
  unfold listA at hk
  split at hk
  · rename_i kv kvs
    split at hk
    · rename_i hs
      cases hk
      obtain ⟨x, rfl, tx⟩ := paired1 t
      obtain ⟨u, rfl, ru⟩ := vals1 rx
      obtain ⟨a, ks, vs, ep, rfl, lo, hat, hz, hl, hks, he, hr⟩ := dict_src I hs tx
      cases ru
      refine PySem.W.kdl_call (PySem.W.kdl_dict (knd := mixKind X.prog X.w) (kvs := vs) (ep := ep) lo) (I.ok.hd hc) hat hz fun h' tk acc c' kp hS hacc => ?_
      have hv := src_items hacc
      rw [← hks] at hv
      have hz2 : (ks.map kV).length ≤ sizeLine := by rw [List.length_map, hl]; exact hz
      have hp := I.hok.fresh (Nat.le_refl s.heap.objs.size)
      rw [he] at q
      exact ⟨.ref s.heap.objs.size, _, I.laid (t' := tk) kp (Nat.le_refl _) (show ObjOk X.prog X.w _ h' _ (.lst (ks.map kV)) from ⟨hz2, acc.toList, c', hv, by rw [Array.toArray_toList]; exact hS⟩), rfl, q _ Hd _ (Gr.own eh hp) ⟨_, rfl, hp, Evl.fresh_back eh hp, .lst upd_same hr hz2⟩⟩
    · cases hk
  · rename_i y
    cases hk
    obtain ⟨x, rfl, tx⟩ := paired1 t
    obtain ⟨u, rfl, ru⟩ := vals1 rx
    cases tx with
    | str _ hy =>
      obtain ⟨tk0, rfl⟩ := ru
      refine PySem.call_list_str (I.ok.hd hc) y tk0 (hn := hy) fun h' tk acc c' kp hS hacc => ?_
      have hz2 : (y.cps.toList.map fun c => V.str ⟨#[c]⟩).length ≤ sizeLine := by rw [List.length_map, Array.length_toList]; exact hy
      have hp := I.hok.fresh (Nat.le_refl s.heap.objs.size)
      have hv : Vals (y.cps.toList.map fun c => V.str ⟨#[c]⟩) acc.toList := vals_of_at (by rw [List.length_map, Array.length_toList, Array.length_toList, hacc.1]) fun j a v h1 h2 => by
        obtain ⟨c, u, e1, rfl⟩ := hacc.2 j v (by rw [← Array.getElem?_toList]; exact h2)
        rw [List.getElem?_map, Array.getElem?_toList, e1] at h1
        cases h1
        exact ⟨_, rfl⟩
      exact ⟨.ref s.heap.objs.size, _, I.laid (t' := tk) kp (Nat.le_refl _) (show ObjOk X.prog X.w _ h' _ (.lst (y.cps.toList.map fun c => V.str ⟨#[c]⟩)) from ⟨hz2, acc.toList, c', hv, by rw [Array.toArray_toList]; exact hS⟩), rfl, q _ Hd _ (Gr.own eh hp) ⟨_, rfl, hp, Evl.fresh_back eh hp, .lst upd_same (one_rps _) hz2⟩⟩
  · exact cr_listD pins s σ H xs us Q I rx ⟨Hd, ds, z, eh, t, hk, q⟩
end
section
variable {f : Env → Option D} {ρ : Env} {ds : List D}
theorem nx_tupA (hf : f ρ = some (.list ds)) : fn tupleA (acons f anil) ρ = some (.tuple ds) := by rw [ev_fn1 hf]; rfl
theorem nx_lstA (hf : f ρ = some (.tuple ds)) : fn listA (acons f anil) ρ = some (.list ds) := by rw [ev_fn1 hf]; rfl
theorem gd_tupS {β : Type} (T : List (Str × β)) (g : β → D) (h : T ≠ []) (hk : ∀ p ∈ T, p.1.length ≤ 16777216) (hf : f ρ = some (gD T g)) : fn tupleA (acons f anil) ρ = some (.tuple (T.map fun p => .str p.1)) := by
  rw [ev_fn1 hf]
  cases T with
  | nil => exact absurd rfl h
  | cons p T =>
    show (if (((p :: T).map fun p => ((Datum.toD p.1 : D), g p.2)).all fun p => keyZ p.1) = true then some (PyData.tuple (((p :: T).map fun p => ((Datum.toD p.1 : D), g p.2)).map (·.1))) else none) = _
    rw [if_pos (by
      rw [List.all_map]
      exact List.all_eq_true.mpr fun q hq => decide_eq_true (hk q hq)), List.map_map]
    rfl
theorem gd_lstS {β : Type} (T : List (Str × β)) (g : β → D) (h : T ≠ []) (hk : ∀ p ∈ T, p.1.length ≤ 16777216) (hf : f ρ = some (gD T g)) : fn listA (acons f anil) ρ = some (.list (T.map fun p => .str p.1)) := by
  rw [ev_fn1 hf]
  cases T with
  | nil => exact absurd rfl h
  | cons p T =>
    show (if (((p :: T).map fun p => ((Datum.toD p.1 : D), g p.2)).all fun p => keyZ p.1) = true then some (PyData.list (((p :: T).map fun p => ((Datum.toD p.1 : D), g p.2)).map (·.1))) else none) = _
    rw [if_pos (by
      rw [List.all_map]
      exact List.all_eq_true.mpr fun q hq => decide_eq_true (hk q hq)), List.map_map]
    rfl
theorem t_lst (l : List Nat) (hf : f ρ = some (tD l)) : fn listA (acons f anil) ρ = some (.list (l.map fun c => tD [c])) := by
  rw [ev_fn1 hf]
  show some (PyData.list ((tx l).cps.toList.map _)) = _
  rw [tx_cps]
  rfl
end
end PL

set_option Elab.async false
set_option linter.all false
set_option maxRecDepth 100000
set_option pp.maxSteps 8
namespace LX
open PySem PySem.Spec PyProof.Rows L2 PySem.W PL
def topS (i : Nat) : Stmt := PySem.Challenge.pw_filedbyrule_k34_several_tongues.main.body.getD i (.Pass ⟨0, 0, 0, 0⟩)
structure Ev (K : PySem.W.Frag) (mg : Str → Option Value) : Prop where
  blt : Blt mg
  is_tuple_of : Ff K mg "is_tuple_of" (topS 1) ["thing", "many"]
  is_name : Ff K mg "is_name" (topS 2) ["thing"]
  spells : Ff K mg "spells" (topS 4) ["alphabet", "name"]
  key_by : Ff K mg "key_by" (topS 5) ["alphabet", "name"]
  texts_of : Ff K mg "texts_of" (topS 7) ["signs", "size"]
  is_word : Ff K mg "is_word" (topS 9) ["tongues", "thing"]
  are_words : Ff K mg "are_words" (topS 10) ["tongues", "thing"]
  by_tongues : Ff K mg "by_tongues" (topS 11) ["tongues", "row", "words"]
  size_of_all : Ff K mg "size_of_all" (topS 12) ["tongues"]
  all_in_one : Ff K mg "all_in_one" (topS 13) ["tongues", "words"]
  written_in : Ff K mg "written_in" (topS 14) ["table", "name"]
  by_writing : Ff K mg "by_writing" (topS 15) ["tables", "words"]
  clashes_of : Ff K mg "clashes_of" (topS 16) ["tables", "words"]
  is_clean : Ff K mg "is_clean" (topS 17) ["table", "letters"]
  shared_letters : Ff K mg "shared_letters" (topS 18) ["tongues"]
  order_kept : Ff K mg "order_kept" (topS 19) ["tongues", "one", "other"]
  _law_draws : Ff K mg "_law_draws" (topS 21) ["script", "many"]
  _law_next : Ff K mg "_law_next" (topS 22) ["w", "many"]
  _law_pick : Ff K mg "_law_pick" (topS 23) ["w", "rows"]
  _law_says : Ff K mg "_law_says" (topS 24) ["seen", "due"]
  _law_same : Ff K mg "_law_same" (topS 25) ["seen", "due"]
  _law_fraction : Ff K mg "_law_fraction" (topS 26) ["a", "b"]
  _law_less : Ff K mg "_law_less" (topS 30) ["one", "other"]
  _law_alphabet : Ff K mg "_law_alphabet" (topS 33) ["w", "letters"]
  _law_key : Ff K mg "_law_key" (topS 34) ["alphabet", "name"]
  _law_written : Ff K mg "_law_written" (topS 36) ["table", "name"]
  _law_ahead : Ff K mg "_law_ahead" (topS 37) ["one", "other"]
  _law_clean : Ff K mg "_law_clean" (topS 38) ["table", "letters"]
section
variable {P : Program} {w : World} {K : PySem.W.Frag} {mg : Str → Option Value} {base : Heap}
abbrev s_is_tuple_of : Stmt := topS 1
abbrev N_is_tuple_of : List Str := ["thing", "many"]
theorem sc_is_tuple_of : FnScope N_is_tuple_of ["thing", "many"] (defScope s_is_tuple_of) := ⟨rfl, rfl, rfl, by decide +kernel, rfl, by decide +kernel, by decide +kernel⟩
def m_is_tuple_of : PL.Env → Option (Fl × PL.Env) :=
  (retS (andV (op1 (instD .tuple) (var 0)) (op2 (bD eqB) (fn lenD (acons (var 0) anil)) (var 1))))
def k_is_tuple_of : List D → Option D := bodyD 2 m_is_tuple_of
theorem d_is_tuple_of (ev : Ev K mg) : Df P w K mg base 1 "is_tuple_of" (SpP K 2 k_is_tuple_of) :=
  d_pure (lv := 0) (O' := []) ev.is_tuple_of sc_is_tuple_of rfl fun fa cdv A outer s H E hr =>
    (s_one (s_ret' (p_andV (p_dat (p_inst .tuple rfl ev.blt.isinstance (p_var (pv 0)) rfl ev.blt.tuple bt_tuple)) (p_one (p_cmp (op_eqB hr.units) ok_rB (p_dat (p_fnB cr_lenD rfl ev.blt.len bt_len (p_aconsB (p_varB (pv 0)) p_anil))) (p_varB (pv 1)) rfl)))))
abbrev s_is_name : Stmt := topS 2
abbrev N_is_name : List Str := ["thing", "sign"]
theorem sc_is_name : FnScope N_is_name ["thing"] (defScope s_is_name) := ⟨rfl, rfl, rfl, by decide +kernel, rfl, by decide +kernel, by decide +kernel⟩
def m_is_name : PL.Env → Option (Fl × PL.Env) :=
  (retS (andV (op1 (instD .str) (var 0)) (andV (op2 (bD neB) (var 0) (cst (.str ""))) (fn allD (acons (lc (anyI (var 0)) [1] (bN 1) yesT (chn (bD leB) (bD leB) (cst (.str "a")) (var 1) (cst (.str "z")))) anil)))))
def k_is_name : List D → Option D := bodyD 2 m_is_name
theorem d_is_name (ev : Ev K mg) : Df P w K mg base 1 "is_name" (SpP K 1 k_is_name) :=
  d_pure (lv := 0) (O' := []) ev.is_name sc_is_name rfl fun fa cdv A outer s H E hr =>
    (s_one (s_ret' (p_andV (p_dat (p_inst .str rfl ev.blt.isinstance (p_var (pv 0)) rfl ev.blt.str bt_str)) (p_andV (p_dat (p_cmp (op_neB hr.units) ok_rB (p_varB (pv 0)) (p_dat p_str) rfl)) (p_one (p_fnB (cr_allD rfl) rfl ev.blt.all bt_all (p_aconsB (p_dat (p_fre (p_lc (own := [("sign", 1)]) rfl sc_is_name.nd (blkOk_by (N := N_is_name) (sc := defScope s_is_name) (by first | decide +kernel | rfl)) (i_any (p_var (pv 0))) (fun _ _ _ _ _ => (pg_name (i := 1) sc_is_name.nd rfl (by first | exact Or.inl rfl | exact Or.inr rfl))) (bnd_name (by decide) (by decide)) (fun _ _ _ _ _ => pts0) (fun _ _ _ _ _ => (p_chn (op_leB hr.units) (op_leB hr.units) ok_rB ok_rB (p_dat p_str) (p_varB (pv 1)) (p_dat p_str)))))) p_anil)))))))
abbrev s_spells : Stmt := topS 4
abbrev N_spells : List Str := ["alphabet", "name", "sign"]
theorem sc_spells : FnScope N_spells ["alphabet", "name"] (defScope s_spells) := ⟨rfl, rfl, rfl, by decide +kernel, rfl, by decide +kernel, by decide +kernel⟩
def m_spells : PL.Env → Option (Fl × PL.Env) :=
  (retS (andV (fn k_is_name (acons (var 1) anil)) (fn allD (acons (lc (anyI (var 1)) [2] (bN 2) yesT (op2 (bD inB) (var 2) (var 0))) anil))))
def k_spells : List D → Option D := bodyD 3 m_spells
theorem d_spells (ev : Ev K mg) : Df P w K mg base 2 "spells" (SpP K 2 k_spells) :=
  d_pure (lv := 1) (O' := []) ev.spells sc_spells rfl fun fa cdv A outer s H E hr =>
    (s_one (s_ret' (p_andV (p_dat (p_call (d_is_name ev) (hr.mono (by omega)) rfl (p_aconsD (p_var (pv 1)) p_anil) (hlen := (len_cons len_nil)))) (p_one (p_fnB (cr_allD rfl) rfl ev.blt.all bt_all (p_aconsB (p_dat (p_fre (p_lc (own := [("sign", 2)]) rfl sc_spells.nd (blkOk_by (N := N_spells) (sc := defScope s_spells) (by first | decide +kernel | rfl)) (i_any (p_var (pv 1))) (fun _ _ _ _ _ => (pg_name (i := 2) sc_spells.nd rfl (by first | exact Or.inl rfl | exact Or.inr rfl))) (bnd_name (by decide) (by decide)) (fun _ _ _ _ _ => pts0) (fun _ _ _ _ _ => (p_cmp (op_in2 hr.units) ok_in (p_varB (pv 2)) (p_varB (pv 0)) rfl))))) p_anil))))))
abbrev s_key_by : Stmt := topS 5
abbrev N_key_by : List Str := ["alphabet", "name", "sign"]
theorem sc_key_by : FnScope N_key_by ["alphabet", "name"] (defScope s_key_by) := ⟨rfl, rfl, rfl, by decide +kernel, rfl, by decide +kernel, by decide +kernel⟩
def m_key_by : PL.Env → Option (Fl × PL.Env) :=
  (retS (fn tupleD (acons (lc (anyI (var 1)) [2] (bN 2) yesT (op2 indexB (var 0) (var 2))) anil)))
def k_key_by : List D → Option D := bodyD 3 m_key_by
theorem d_key_by (ev : Ev K mg) : Df P w K mg base 1 "key_by" (SpP K 2 k_key_by) :=
  d_pure (lv := 0) (O' := []) ev.key_by sc_key_by rfl fun fa cdv A outer s H E hr =>
    (s_one (s_ret' (p_fnT cr_tupleD rfl ev.blt.tuple bt_tuple (p_aconsB (p_dat (p_fre (p_lc (own := [("sign", 2)]) rfl sc_key_by.nd (blkOk_by (N := N_key_by) (sc := defScope s_key_by) (by first | decide +kernel | rfl)) (i_any (p_var (pv 1))) (fun _ _ _ _ _ => (pg_name (i := 2) sc_key_by.nd rfl (by first | exact Or.inl rfl | exact Or.inr rfl))) (bnd_name (by decide) (by decide)) (fun _ _ _ _ _ => pts0) (fun _ _ _ _ _ => (p_indexB hr.units (p_varB (pv 0)) (p_varB (pv 2))))))) p_anil))))
abbrev s_texts_of : Stmt := topS 7
abbrev N_texts_of : List Str := ["signs", "size", "rows", "_", "row", "sign"]
theorem sc_texts_of : FnScope N_texts_of ["signs", "size"] (defScope s_texts_of) := ⟨rfl, rfl, rfl, by decide +kernel, rfl, by decide +kernel, by decide +kernel⟩
def m_texts_of : PL.Env → Option (Fl × PL.Env) :=
  (seqS
    (asgS 2 (lst (acons (cst (.str "")) anil)))
    (seqS
    (forS (rng (acons (var 1) anil)) (bN 3)
    (asgS 2 (lc2 (anyI (var 2)) [4, 5] (bN 4) yesT (anyI (var 0)) [5] (bN 5) yesT (op2 addA (var 4) (var 5)))))
    (retS (var 2))))
def k_texts_of : List D → Option D := bodyD 6 m_texts_of
theorem d_texts_of (ev : Ev K mg) : Df P w K mg base 1 "texts_of" (SpP K 2 k_texts_of) :=
  d_pure (lv := 0) (O' := []) ev.texts_of sc_texts_of rfl fun fa cdv A outer s H E hr =>
    (s_cons
    (s_asg (ps_set (i := 2) sc_texts_of.nd rfl (.inl rfl) (p_fre (p_lst (p_aconsD p_str p_anil) (len_cons len_nil)))) (fun _ _ _ h => h))
    (s_cons
    (s_for (vs := [3]) PassesOwn.never rfl (i_rng1 (per := true) rfl ev.blt.range (p_aconsB (p_varB (pv 1)) p_anil) (len_cons len_nil)) (pg_name (i := 3) sc_texts_of.nd rfl (by first | exact Or.inl rfl | exact Or.inr rfl)) (bnd_name (by decide) (by decide))
    (s_one (s_post (O2 := []) (s_lc2 (own := [("row", 4), ("sign", 5)]) (vs1 := [5]) (i := 2) rfl sc_texts_of.nd rfl rfl (sw_true rfl rfl rfl (by first | decide +kernel | rfl)) (blkOk_by (N := N_texts_of) (sc := defScope s_texts_of) (by first | decide +kernel | rfl)) (i_any (p_var (pv 2))) (fun _ _ _ _ _ => (pg_name (i := 4) sc_texts_of.nd rfl (by first | exact Or.inl rfl | exact Or.inr rfl))) (bnd_name (by decide) (by decide)) (bndK_name (by decide)) (fun _ _ _ _ _ => pts0) (fun _ _ _ _ _ => (i_any (p_var (pv 0)))) (fun _ _ _ _ _ => (pg_name (i := 5) sc_texts_of.nd rfl (by first | exact Or.inl rfl | exact Or.inr rfl))) (bnd_name (by decide) (by decide)) (fun _ _ _ _ _ => pts0) (fun _ _ _ _ _ => (p_bin op_addA ok_addA (p_varB (pv 4)) (p_varB (pv 5)))) (by decide)))))
    (s_one (s_ret' (p_var (pv 2))))))
abbrev s_is_word : Stmt := topS 9
abbrev N_is_word : List Str := ["tongues", "thing"]
theorem sc_is_word : FnScope N_is_word ["tongues", "thing"] (defScope s_is_word) := ⟨rfl, rfl, rfl, by decide +kernel, rfl, by decide +kernel, by decide +kernel⟩
def m_is_word : PL.Env → Option (Fl × PL.Env) :=
  (seqS
    (ifS (orT (notT (tru (fn k_is_tuple_of (acons (var 1) (acons (cst (.int 2)) anil))))) (orT (notT (tru (op1 (instD .str) (op2 ixA (var 1) (cst (.int 0)))))) (tru (op2 (bD (notB inB)) (op2 ixA (var 1) (cst (.int 0))) (var 0)))))
    (retS (cst (.bool false)))
    nilS)
    (retS (fn k_spells (acons (op2 ixA (var 0) (op2 ixA (var 1) (cst (.int 0)))) (acons (op2 ixA (var 1) (cst (.int 1))) anil)))))
def k_is_word : List D → Option D := bodyD 2 m_is_word
theorem d_is_word (ev : Ev K mg) : Df P w K mg base 3 "is_word" (SpP K 2 k_is_word) :=
  d_pure (lv := 2) (O' := []) ev.is_word sc_is_word rfl fun fa cdv A outer s H E hr =>
    (s_cons
    (s_if (L2.PW.pt (p_or (p_not (p_valT (p_dat (p_call (d_is_tuple_of ev) (hr.mono (by omega)) rfl (p_aconsD (p_var (pv 1)) (p_aconsD p_int p_anil)) (hlen := (len_cons (len_cons len_nil))))))) (p_or (p_not (p_valT (p_dat (p_inst .str rfl ev.blt.isinstance (p_ix (ix_A hr.units) ok_ixA (p_varB (pv 1)) (p_dat p_int)) rfl ev.blt.str bt_str)))) (p_or1 (p_cmpT (op_notIn2 hr.units) ok_notIn (p_dat (p_ix (ix_A hr.units) ok_ixA (p_varB (pv 1)) (p_dat p_int))) (p_varB (pv 0)) rfl)))))
    (s_one (s_ret' p_bl))
    s_nil)
    (s_one (s_ret' (p_call (d_spells ev) (hr.mono (by omega)) rfl (p_aconsD (p_ix (ix_A hr.units) ok_ixA (p_varB (pv 0)) (p_dat (p_ix (ix_A hr.units) ok_ixA (p_varB (pv 1)) (p_dat p_int)))) (p_aconsD (p_ix (ix_A hr.units) ok_ixA (p_varB (pv 1)) (p_dat p_int)) p_anil)) (hlen := (len_cons (len_cons len_nil)))))))
abbrev s_are_words : Stmt := topS 10
abbrev N_are_words : List Str := ["tongues", "thing", "one"]
theorem sc_are_words : FnScope N_are_words ["tongues", "thing"] (defScope s_are_words) := ⟨rfl, rfl, rfl, by decide +kernel, rfl, by decide +kernel, by decide +kernel⟩
def m_are_words : PL.Env → Option (Fl × PL.Env) :=
  (retS (andV (op1 (instD .tuple) (var 1)) (fn allD (acons (lc (anyI (var 1)) [2] (bN 2) yesT (fn k_is_word (acons (var 0) (acons (var 2) anil)))) anil))))
def k_are_words : List D → Option D := bodyD 3 m_are_words
theorem d_are_words (ev : Ev K mg) : Df P w K mg base 4 "are_words" (SpP K 2 k_are_words) :=
  d_pure (lv := 3) (O' := []) ev.are_words sc_are_words rfl fun fa cdv A outer s H E hr =>
    (s_one (s_ret' (p_andV (p_dat (p_inst .tuple rfl ev.blt.isinstance (p_var (pv 1)) rfl ev.blt.tuple bt_tuple)) (p_one (p_fnB (cr_allD rfl) rfl ev.blt.all bt_all (p_aconsB (p_dat (p_fre (p_lc (own := [("one", 2)]) rfl sc_are_words.nd (blkOk_by (N := N_are_words) (sc := defScope s_are_words) (by first | decide +kernel | rfl)) (i_any (p_var (pv 1))) (fun _ _ _ _ _ => (pg_name (i := 2) sc_are_words.nd rfl (by first | exact Or.inl rfl | exact Or.inr rfl))) (bnd_name (by decide) (by decide)) (fun _ _ _ _ _ => pts0) (fun _ _ _ _ _ => (p_call (d_is_word ev) (hr.mono (by omega)) rfl (p_aconsD (p_var (pv 0)) (p_aconsD (p_var (pv 2)) p_anil)) (hlen := (len_cons (len_cons len_nil)))))))) p_anil))))))
abbrev s_by_tongues : Stmt := topS 11
abbrev N_by_tongues : List Str := ["tongues", "row", "words", "rows", "k", "tongue", "name", "_"]
theorem sc_by_tongues : FnScope N_by_tongues ["tongues", "row", "words"] (defScope s_by_tongues) := ⟨rfl, rfl, rfl, by decide +kernel, rfl, by decide +kernel, by decide +kernel⟩
def m_by_tongues : PL.Env → Option (Fl × PL.Env) :=
  (seqS
    (asgS 3 (lst anil))
    (seqS
    (forS (rng (acons (fn lenD (acons (var 2) anil)) anil)) (bN 4)
    (seqS
    (tgtS (bT [5, 6]) (up (op2 ixA (var 2) (var 4))))
    (exprS (mutL 3 appendD (aconsE (up (tup (acons (op2 indexB (var 1) (var 5)) (acons (fn k_key_by (acons (op2 ixA (var 0) (var 5)) (acons (var 6) anil))) (acons (var 4) anil))))) anilE)))))
    (retS (fn tupleD (acons (lc (anyI (fn sortedA (acons (var 3) anil))) [7, 4] (bT [7, 7, 4]) yesT (op2 ixA (var 2) (var 4))) anil)))))
def k_by_tongues : List D → Option D := bodyD 8 m_by_tongues
theorem d_by_tongues (ev : Ev K mg) : Df P w K mg base 2 "by_tongues" (SpP K 3 k_by_tongues) :=
  d_pure (lv := 1) (O' := []) ev.by_tongues sc_by_tongues rfl fun fa cdv A outer s H E hr =>
    (s_cons
    (s_own (ps_set (i := 3) sc_by_tongues.nd rfl (.inl rfl) (p_lst p_anil len_nil)) (fun _ _ _ h => h))
    (s_cons
    (s_for (vs := [4]) PassesOwn.never rfl (i_rng1 (per := true) rfl ev.blt.range (p_aconsB (p_dat (p_fnB cr_lenD rfl ev.blt.len bt_len (p_aconsB (p_varB (pv 2)) p_anil))) p_anil) (len_cons len_nil)) (pg_name (i := 4) sc_by_tongues.nd rfl (by first | exact Or.inl rfl | exact Or.inr rfl)) (bnd_name (by decide) (by decide))
    (s_cons
    (s_tgt (vs := [5, 6]) (ps_asg (p_up (p_ix (ix_A hr.units) ok_ixA (p_varB (pv 2)) (p_varB (pv 4)))) (pg_tup rfl (pgs_cons (pg_name (i := 5) sc_by_tongues.nd rfl (by first | exact Or.inl rfl | exact Or.inr rfl)) (pgs_cons (pg_name (i := 6) sc_by_tongues.nd rfl (by first | exact Or.inl rfl | exact Or.inr rfl)) pgs_nil)))) (bnd_tup (js := [5, 6]) (.cons (.cons .nil)) rfl (by decide)) (fun _ _ _ h => h))
    (s_one (s_expr (p_mut PySem.F.slot_list_append PySem.F.type_list_append mt_append mu_append (pv 3) (by decide) (p_aconsE (p_up (p_tup (p_aconsD (p_indexB hr.units (p_varB (pv 1)) (p_varB (pv 5))) (p_aconsD (p_call (d_key_by ev) (hr.mono (by omega)) rfl (p_aconsD (p_ix (ix_A hr.units) ok_ixA (p_varB (pv 0)) (p_varB (pv 5))) (p_aconsD (p_var (pv 6)) p_anil)) (hlen := (len_cons (len_cons len_nil)))) (p_aconsD (p_var (pv 4)) p_anil))) (len_cons (len_cons (len_cons len_nil))))) p_anilE))))))
    (s_one (s_weak (O1 := []) (s_ret' (p_fnT cr_tupleD rfl ev.blt.tuple bt_tuple (p_aconsB (p_dat (p_fre (p_lc (own := [("_", 7), ("k", 4)]) rfl sc_by_tongues.nd (blkOk_by (N := N_by_tongues) (sc := defScope s_by_tongues) (by first | decide +kernel | rfl)) (i_any (p_fre (p_fnB (cr_sortedA rfl hr.units) rfl ev.blt.sorted bt_sorted (p_aconsB (p_varB (pv 3)) p_anil)))) (fun _ _ _ _ _ => (pg_tup rfl (pgs_cons (pg_name (i := 7) sc_by_tongues.nd rfl (by first | exact Or.inl rfl | exact Or.inr rfl)) (pgs_cons (pg_name (i := 7) sc_by_tongues.nd rfl (by first | exact Or.inl rfl | exact Or.inr rfl)) (pgs_cons (pg_name (i := 4) sc_by_tongues.nd rfl (by first | exact Or.inl rfl | exact Or.inr rfl)) pgs_nil))))) (bnd_tup (js := [7, 7, 4]) (.cons (.cons (.cons .nil))) rfl (by decide)) (fun _ _ _ _ _ => pts0) (fun _ _ _ _ _ => (p_ix (ix_A hr.units) ok_ixA (p_varB (pv 2)) (p_varB (pv 4))))))) p_anil)))))))
abbrev s_size_of_all : Stmt := topS 12
abbrev N_size_of_all : List Str := ["tongues", "found", "tongue"]
theorem sc_size_of_all : FnScope N_size_of_all ["tongues"] (defScope s_size_of_all) := ⟨rfl, rfl, rfl, by decide +kernel, rfl, by decide +kernel, by decide +kernel⟩
def m_size_of_all : PL.Env → Option (Fl × PL.Env) :=
  (seqS
    (asgS 1 (cst (.int 1)))
    (seqS
    (forS (anyI (var 0)) (bN 2)
    (asgS 1 (op2 mul2D (var 1) (fn lenD (acons (op2 ixA (var 0) (var 2)) anil)))))
    (retS (var 1))))
def k_size_of_all : List D → Option D := bodyD 3 m_size_of_all
theorem d_size_of_all (ev : Ev K mg) : Df P w K mg base 1 "size_of_all" (SpP K 1 k_size_of_all) :=
  d_pure (lv := 0) (O' := []) ev.size_of_all sc_size_of_all rfl fun fa cdv A outer s H E hr =>
    (s_cons
    (s_asg (ps_set (i := 1) sc_size_of_all.nd rfl (.inl rfl) p_int) (fun _ _ _ h => h))
    (s_cons
    (s_for (vs := [2]) PassesOwn.never rfl (i_any (p_var (pv 0))) (pg_name (i := 2) sc_size_of_all.nd rfl (by first | exact Or.inl rfl | exact Or.inr rfl)) (bnd_name (by decide) (by decide))
    (s_one (s_asg (ps_set (i := 1) sc_size_of_all.nd rfl (.inl rfl) (p_bin op_mul2 ok_mul2 (p_varB (pv 1)) (p_dat (p_fnB cr_lenD rfl ev.blt.len bt_len (p_aconsB (p_dat (p_ix (ix_A hr.units) ok_ixA (p_varB (pv 0)) (p_varB (pv 2)))) p_anil))))) (fun _ _ _ h => h))))
    (s_one (s_ret' (p_var (pv 1))))))
abbrev s_all_in_one : Stmt := topS 13
abbrev N_all_in_one : List Str := ["tongues", "words", "whole", "rows", "k", "tongue", "name", "part", "place", "_"]
theorem sc_all_in_one : FnScope N_all_in_one ["tongues", "words"] (defScope s_all_in_one) := ⟨rfl, rfl, rfl, by decide +kernel, rfl, by decide +kernel, by decide +kernel⟩
def m_all_in_one : PL.Env → Option (Fl × PL.Env) :=
  (seqS
    (parS [2, 3] (aconsE (up (fn k_size_of_all (acons (var 0) anil))) (aconsE (up (lst anil)) anilE)))
    (seqS
    (forS (rng (acons (fn lenD (acons (var 1) anil)) anil)) (bN 4)
    (seqS
    (tgtS (bT [5, 6]) (up (op2 ixA (var 1) (var 4))))
    (seqS
    (asgS 7 (op2 fdivD (var 2) (fn lenD (acons (op2 ixA (var 0) (var 5)) anil))))
    (exprS (mutL 3 appendD (aconsE (up (tup (acons (fn tupleD (acons (lc (anyI (fn k_key_by (acons (op2 ixA (var 0) (var 5)) (acons (var 6) anil)))) [8] (bN 8) yesT (op2 mul2D (var 8) (var 7))) anil)) (acons (var 5) (acons (var 4) anil))))) anilE))))))
    (retS (fn tupleD (acons (lc (anyI (fn sortedA (acons (var 3) anil))) [9, 4] (bT [9, 9, 4]) yesT (op2 ixA (var 1) (var 4))) anil)))))
def k_all_in_one : List D → Option D := bodyD 10 m_all_in_one
theorem d_all_in_one (ev : Ev K mg) : Df P w K mg base 2 "all_in_one" (SpP K 2 k_all_in_one) :=
  d_pure (lv := 1) (O' := []) ev.all_in_one sc_all_in_one rfl fun fa cdv A outer s H E hr =>
    (s_cons
    (s_par (i := 2) (j := 3) rfl sc_all_in_one.nd rfl rfl rfl rfl (m_dat (p_up (p_call (d_size_of_all ev) (hr.mono (by omega)) rfl (p_aconsD (p_var (pv 0)) p_anil) (hlen := (len_cons len_nil)))) (m_fre (p_lst p_anil len_nil) m_nil)) rfl rfl)
    (s_cons
    (s_for (vs := [4]) PassesOwn.never rfl (i_rng1 (per := true) rfl ev.blt.range (p_aconsB (p_dat (p_fnB cr_lenD rfl ev.blt.len bt_len (p_aconsB (p_varB (pv 1)) p_anil))) p_anil) (len_cons len_nil)) (pg_name (i := 4) sc_all_in_one.nd rfl (by first | exact Or.inl rfl | exact Or.inr rfl)) (bnd_name (by decide) (by decide))
    (s_cons
    (s_tgt (vs := [5, 6]) (ps_asg (p_up (p_ix (ix_A hr.units) ok_ixA (p_varB (pv 1)) (p_varB (pv 4)))) (pg_tup rfl (pgs_cons (pg_name (i := 5) sc_all_in_one.nd rfl (by first | exact Or.inl rfl | exact Or.inr rfl)) (pgs_cons (pg_name (i := 6) sc_all_in_one.nd rfl (by first | exact Or.inl rfl | exact Or.inr rfl)) pgs_nil)))) (bnd_tup (js := [5, 6]) (.cons (.cons .nil)) rfl (by decide)) (fun _ _ _ h => h))
    (s_cons
    (s_asg (ps_set (i := 7) sc_all_in_one.nd rfl (.inr rfl) (p_bin op_fdiv ok_fdiv (p_varB (pv 2)) (p_dat (p_fnB cr_lenD rfl ev.blt.len bt_len (p_aconsB (p_dat (p_ix (ix_A hr.units) ok_ixA (p_varB (pv 0)) (p_varB (pv 5)))) p_anil))))) (fun _ _ _ h => h))
    (s_one (s_expr (p_mut PySem.F.slot_list_append PySem.F.type_list_append mt_append mu_append (pv 3) (by decide) (p_aconsE (p_up (p_tup (p_aconsD (p_fnT cr_tupleD rfl ev.blt.tuple bt_tuple (p_aconsB (p_dat (p_fre (p_lc (own := [("place", 8)]) rfl sc_all_in_one.nd (blkOk_by (N := N_all_in_one) (sc := defScope s_all_in_one) (by first | decide +kernel | rfl)) (i_any (p_call (d_key_by ev) (hr.mono (by omega)) rfl (p_aconsD (p_ix (ix_A hr.units) ok_ixA (p_varB (pv 0)) (p_varB (pv 5))) (p_aconsD (p_var (pv 6)) p_anil)) (hlen := (len_cons (len_cons len_nil))))) (fun _ _ _ _ _ => (pg_name (i := 8) sc_all_in_one.nd rfl (by first | exact Or.inl rfl | exact Or.inr rfl))) (bnd_name (by decide) (by decide)) (fun _ _ _ _ _ => pts0) (fun _ _ _ _ _ => (p_bin op_mul2 ok_mul2 (p_varB (pv 8)) (p_varB (pv 7))))))) p_anil)) (p_aconsD (p_var (pv 5)) (p_aconsD (p_var (pv 4)) p_anil))) (len_cons (len_cons (len_cons len_nil))))) p_anilE)))))))
    (s_one (s_weak (O1 := []) (s_ret' (p_fnT cr_tupleD rfl ev.blt.tuple bt_tuple (p_aconsB (p_dat (p_fre (p_lc (own := [("_", 9), ("k", 4)]) rfl sc_all_in_one.nd (blkOk_by (N := N_all_in_one) (sc := defScope s_all_in_one) (by first | decide +kernel | rfl)) (i_any (p_fre (p_fnB (cr_sortedA rfl hr.units) rfl ev.blt.sorted bt_sorted (p_aconsB (p_varB (pv 3)) p_anil)))) (fun _ _ _ _ _ => (pg_tup rfl (pgs_cons (pg_name (i := 9) sc_all_in_one.nd rfl (by first | exact Or.inl rfl | exact Or.inr rfl)) (pgs_cons (pg_name (i := 9) sc_all_in_one.nd rfl (by first | exact Or.inl rfl | exact Or.inr rfl)) (pgs_cons (pg_name (i := 4) sc_all_in_one.nd rfl (by first | exact Or.inl rfl | exact Or.inr rfl)) pgs_nil))))) (bnd_tup (js := [9, 9, 4]) (.cons (.cons (.cons .nil))) rfl (by decide)) (fun _ _ _ _ _ => pts0) (fun _ _ _ _ _ => (p_ix (ix_A hr.units) ok_ixA (p_varB (pv 1)) (p_varB (pv 4))))))) p_anil)))))))
abbrev s_written_in : Stmt := topS 14
abbrev N_written_in : List Str := ["table", "name", "sign"]
theorem sc_written_in : FnScope N_written_in ["table", "name"] (defScope s_written_in) := ⟨rfl, rfl, rfl, by decide +kernel, rfl, by decide +kernel, by decide +kernel⟩
def m_written_in : PL.Env → Option (Fl × PL.Env) :=
  (retS (op2 joinD (cst (.str "")) (lc (anyI (var 1)) [2] (bN 2) yesT (op3 get2 (var 0) (var 2) (var 2)))))
def k_written_in : List D → Option D := bodyD 3 m_written_in
theorem d_written_in (ev : Ev K mg) : Df P w K mg base 1 "written_in" (SpP K 2 k_written_in) :=
  d_pure (lv := 0) (O' := []) ev.written_in sc_written_in rfl fun fa cdv A outer s H E hr =>
    (s_one (s_ret' (p_join (p_dat p_str) (p_dat (p_fre (p_lc (own := [("sign", 2)]) rfl sc_written_in.nd (blkOk_by (N := N_written_in) (sc := defScope s_written_in) (by first | decide +kernel | rfl)) (i_any (p_var (pv 1))) (fun _ _ _ _ _ => (pg_name (i := 2) sc_written_in.nd rfl (by first | exact Or.inl rfl | exact Or.inr rfl))) (bnd_name (by decide) (by decide)) (fun _ _ _ _ _ => pts0) (fun _ _ _ _ _ => (p_get2 hr.units (p_varB (pv 0)) (p_varB (pv 2)) (p_var (pv 2)) ⟨rfl, rfl, rfl, rfl⟩))))))))
abbrev s_by_writing : Stmt := topS 15
abbrev N_by_writing : List Str := ["tables", "words", "rows", "tongue", "name", "_"]
theorem sc_by_writing : FnScope N_by_writing ["tables", "words"] (defScope s_by_writing) := ⟨rfl, rfl, rfl, by decide +kernel, rfl, by decide +kernel, by decide +kernel⟩
def m_by_writing : PL.Env → Option (Fl × PL.Env) :=
  (seqS
    (asgS 2 (lc (anyI (var 1)) [3, 4] (bT [3, 4]) yesT (tup (acons (fn k_written_in (acons (op3 get2 (var 0) (var 3) dnil) (acons (var 4) anil))) (acons (var 3) (acons (var 4) anil))))))
    (retS (fn tupleD (acons (lc (anyI (fn sortedA (acons (var 2) anil))) [5, 3, 4] (bT [5, 3, 4]) yesT (tup (acons (var 3) (acons (var 4) anil)))) anil))))
def k_by_writing : List D → Option D := bodyD 6 m_by_writing
theorem d_by_writing (ev : Ev K mg) : Df P w K mg base 2 "by_writing" (SpP K 2 k_by_writing) :=
  d_pure (lv := 1) (O' := []) ev.by_writing sc_by_writing rfl fun fa cdv A outer s H E hr =>
    (s_cons
    (s_post (O2 := []) (s_lc (own := [("tongue", 3), ("name", 4)]) (i := 2) rfl sc_by_writing.nd rfl rfl (sw_true rfl rfl rfl (by first | decide +kernel | rfl)) (blkOk_by (N := N_by_writing) (sc := defScope s_by_writing) (by first | decide +kernel | rfl)) (i_any (p_var (pv 1))) (fun _ _ _ _ _ => (pg_tup rfl (pgs_cons (pg_name (i := 3) sc_by_writing.nd rfl (by first | exact Or.inl rfl | exact Or.inr rfl)) (pgs_cons (pg_name (i := 4) sc_by_writing.nd rfl (by first | exact Or.inl rfl | exact Or.inr rfl)) pgs_nil)))) (bnd_tup (js := [3, 4]) (.cons (.cons .nil)) rfl (by decide)) (fun _ _ _ _ _ => pts0) (fun _ _ _ _ _ => (p_tup (p_aconsD (p_call (d_written_in ev) (hr.mono (by omega)) rfl (p_aconsD (p_get2 hr.units (p_varB (pv 0)) (p_varB (pv 3)) (p_fre p_dnil) ⟨rfl, rfl, rfl, rfl⟩) (p_aconsD (p_var (pv 4)) p_anil)) (hlen := (len_cons (len_cons len_nil)))) (p_aconsD (p_var (pv 3)) (p_aconsD (p_var (pv 4)) p_anil))) (len_cons (len_cons (len_cons len_nil)))))))
    (s_one (s_ret' (p_fnT cr_tupleD rfl ev.blt.tuple bt_tuple (p_aconsB (p_dat (p_fre (p_lc (own := [("_", 5), ("tongue", 3), ("name", 4)]) rfl sc_by_writing.nd (blkOk_by (N := N_by_writing) (sc := defScope s_by_writing) (by first | decide +kernel | rfl)) (i_any (p_fre (p_fnB (cr_sortedA rfl hr.units) rfl ev.blt.sorted bt_sorted (p_aconsB (p_varB (pv 2)) p_anil)))) (fun _ _ _ _ _ => (pg_tup rfl (pgs_cons (pg_name (i := 5) sc_by_writing.nd rfl (by first | exact Or.inl rfl | exact Or.inr rfl)) (pgs_cons (pg_name (i := 3) sc_by_writing.nd rfl (by first | exact Or.inl rfl | exact Or.inr rfl)) (pgs_cons (pg_name (i := 4) sc_by_writing.nd rfl (by first | exact Or.inl rfl | exact Or.inr rfl)) pgs_nil))))) (bnd_tup (js := [5, 3, 4]) (.cons (.cons (.cons .nil))) rfl (by decide)) (fun _ _ _ _ _ => pts0) (fun _ _ _ _ _ => (p_tup (p_aconsD (p_var (pv 3)) (p_aconsD (p_var (pv 4)) p_anil)) (len_cons (len_cons len_nil))))))) p_anil)))))
abbrev s_clashes_of : Stmt := topS 16
abbrev N_clashes_of : List Str := ["tables", "words", "found", "k", "tongue", "name", "text"]
theorem sc_clashes_of : FnScope N_clashes_of ["tables", "words"] (defScope s_clashes_of) := ⟨rfl, rfl, rfl, by decide +kernel, rfl, by decide +kernel, by decide +kernel⟩
def m_clashes_of : PL.Env → Option (Fl × PL.Env) :=
  (seqS
    (asgS 2 dnil)
    (seqS
    (forS (rng (acons (fn lenD (acons (var 1) anil)) anil)) (bN 3)
    (seqS
    (tgtS (bT [4, 5]) (up (op2 ixA (var 1) (var 3))))
    (seqS
    (asgS 6 (fn k_written_in (acons (op3 get2 (var 0) (var 4) dnil) (acons (var 5) anil))))
    (putS 2 (up (var 6)) (up (op2 addA (op3 get2 (var 2) (var 6) (tup anil)) (tup (acons (var 3) anil))))))))
    (retS (fn tupleD (acons (fn sortedA (acons (lc (anyI (var 2)) [6] (bN 6) (tru (op2 (bD gtB) (fn lenD (acons (op2 ixA (var 2) (var 6)) anil)) (cst (.int 1)))) (op2 ixA (var 2) (var 6))) anil)) anil)))))
def k_clashes_of : List D → Option D := bodyD 7 m_clashes_of
theorem d_clashes_of (ev : Ev K mg) : Df P w K mg base 2 "clashes_of" (SpP K 2 k_clashes_of) :=
  d_pure (lv := 1) (O' := []) ev.clashes_of sc_clashes_of rfl fun fa cdv A outer s H E hr =>
    (s_cons
    (s_own (ps_set (i := 2) sc_clashes_of.nd rfl (.inr rfl) p_dnil) (fun _ _ _ h => h))
    (s_cons
    (s_for (vs := [3]) PassesOwn.never rfl (i_rng1 (per := true) rfl ev.blt.range (p_aconsB (p_dat (p_fnB cr_lenD rfl ev.blt.len bt_len (p_aconsB (p_varB (pv 1)) p_anil))) p_anil) (len_cons len_nil)) (pg_name (i := 3) sc_clashes_of.nd rfl (by first | exact Or.inl rfl | exact Or.inr rfl)) (bnd_name (by decide) (by decide))
    (s_cons
    (s_tgt (vs := [4, 5]) (ps_asg (p_up (p_ix (ix_A hr.units) ok_ixA (p_varB (pv 1)) (p_varB (pv 3)))) (pg_tup rfl (pgs_cons (pg_name (i := 4) sc_clashes_of.nd rfl (by first | exact Or.inl rfl | exact Or.inr rfl)) (pgs_cons (pg_name (i := 5) sc_clashes_of.nd rfl (by first | exact Or.inl rfl | exact Or.inr rfl)) pgs_nil)))) (bnd_tup (js := [4, 5]) (.cons (.cons .nil)) rfl (by decide)) (fun _ _ _ h => h))
    (s_cons
    (s_asg (ps_set (i := 6) sc_clashes_of.nd rfl (.inl rfl) (p_call (d_written_in ev) (hr.mono (by omega)) rfl (p_aconsD (p_get2 hr.units (p_varB (pv 0)) (p_varB (pv 4)) (p_fre p_dnil) ⟨rfl, rfl, rfl, rfl⟩) (p_aconsD (p_var (pv 5)) p_anil)) (hlen := (len_cons (len_cons len_nil))))) (fun _ _ _ h => h))
    (s_one (s_put hr.units (pv 2) (by decide) (p_up (p_var (pv 6))) (p_up (p_bin op_addA ok_addA (p_dat (p_get2 hr.units (p_varB (pv 2)) (p_varB (pv 6)) (p_tup p_anil len_nil) ⟨rfl, rfl, rfl, rfl⟩)) (p_dat (p_tup (p_aconsD (p_var (pv 3)) p_anil) (len_cons len_nil))))))))))
    (s_one (s_weak (O1 := []) (s_ret' (p_fnT cr_tupleD rfl ev.blt.tuple bt_tuple (p_aconsB (p_dat (p_fre (p_fnB (cr_sortedA rfl hr.units) rfl ev.blt.sorted bt_sorted (p_aconsB (p_dat (p_fre (p_lc (own := [("text", 6)]) rfl sc_clashes_of.nd (blkOk_by (N := N_clashes_of) (sc := defScope s_clashes_of) (by first | decide +kernel | rfl)) (i_any (p_var (pv 2))) (fun _ _ _ _ _ => (pg_name (i := 6) sc_clashes_of.nd rfl (by first | exact Or.inl rfl | exact Or.inr rfl))) (bnd_name (by decide) (by decide)) (fun _ _ _ _ _ => (pts_one (p_cmpT (op_gtB hr.units) ok_rB (p_dat (p_fnB cr_lenD rfl ev.blt.len bt_len (p_aconsB (p_dat (p_ix (ix_A hr.units) ok_ixA (p_varB (pv 2)) (p_varB (pv 6)))) p_anil))) (p_dat p_int) rfl))) (fun _ _ _ _ _ => (p_ix (ix_A hr.units) ok_ixA (p_varB (pv 2)) (p_varB (pv 6))))))) p_anil)))) p_anil)))))))
abbrev s_is_clean : Stmt := topS 17
abbrev N_is_clean : List Str := ["table", "letters", "met", "rows", "size", "name", "text", "other"]
theorem sc_is_clean : FnScope N_is_clean ["table", "letters"] (defScope s_is_clean) := ⟨rfl, rfl, rfl, by decide +kernel, rfl, by decide +kernel, by decide +kernel⟩
def m_is_clean : PL.Env → Option (Fl × PL.Env) :=
  (seqS
    (parS [2, 3] (aconsE (up dnil) (aconsE (up (lst anil)) anilE)))
    (seqS
    (forS (rng (acons (cst (.int 1)) (acons (cst (.int 5)) anil))) (bN 4)
    (forS (anyI (fn k_texts_of (acons (var 1) (acons (var 4) anil)))) (bN 5)
    (seqS
    (asgS 6 (fn k_written_in (acons (var 0) (acons (var 5) anil))))
    (seqS
    (forS (anyI (op3 get2 (var 2) (var 6) (lst anil))) (bN 7)
    (exprS (mutL 3 appendD (aconsE (up (tup (acons (op2 addA (fn lenD (acons (var 7) anil)) (var 4)) (acons (fn min2D (acons (var 7) (acons (var 5) anil))) (acons (fn max2D (acons (var 7) (acons (var 5) anil))) anil))))) anilE))))
    (putS 2 (up (var 6)) (up (op2 addA (op3 get2 (var 2) (var 6) (lst anil)) (lst (acons (var 5) anil)))))))))
    (retS (ifE (tru (op2 (bD neB) (var 3) (lst anil))) (tup (acons (cst (.str "no")) (acons (slc (fn minDD (acons (var 3) anil)) (toB (cst (.int 1))) noB) anil))) (tup (acons (cst (.str "yes")) anil))))))
def k_is_clean : List D → Option D := bodyD 8 m_is_clean
theorem d_is_clean (ev : Ev K mg) : Df P w K mg base 2 "is_clean" (SpP K 2 k_is_clean) :=
  d_pure (lv := 1) (O' := []) ev.is_clean sc_is_clean rfl fun fa cdv A outer s H E hr =>
    (s_cons
    (s_par (i := 2) (j := 3) rfl sc_is_clean.nd rfl rfl rfl rfl (m_fre p_dnil (m_fre (p_lst p_anil len_nil) m_nil)) rfl rfl)
    (s_cons
    (s_for (vs := [4]) PassesOwn.never rfl (i_rng2 (per := true) rfl ev.blt.range (p_aconsB (p_dat p_int) (p_aconsB (p_dat p_int) p_anil)) (len_cons (len_cons len_nil))) (pg_name (i := 4) sc_is_clean.nd rfl (by first | exact Or.inl rfl | exact Or.inr rfl)) (bnd_name (by decide) (by decide))
    (s_one (s_for (vs := [5]) PassesOwn.never rfl (i_any (p_call (d_texts_of ev) (hr.mono (by omega)) rfl (p_aconsD (p_var (pv 1)) (p_aconsD (p_var (pv 4)) p_anil)) (hlen := (len_cons (len_cons len_nil))))) (pg_name (i := 5) sc_is_clean.nd rfl (by first | exact Or.inl rfl | exact Or.inr rfl)) (bnd_name (by decide) (by decide))
    (s_cons
    (s_asg (ps_set (i := 6) sc_is_clean.nd rfl (.inl rfl) (p_call (d_written_in ev) (hr.mono (by omega)) rfl (p_aconsD (p_var (pv 0)) (p_aconsD (p_var (pv 5)) p_anil)) (hlen := (len_cons (len_cons len_nil))))) (fun _ _ _ h => h))
    (s_cons
    (s_for (vs := [7]) PassesOwn.never rfl (i_any (p_get2 hr.units (p_varB (pv 2)) (p_varB (pv 6)) (p_fre (p_lst p_anil len_nil)) ⟨rfl, rfl, rfl, rfl⟩)) (pg_name (i := 7) sc_is_clean.nd rfl (by first | exact Or.inl rfl | exact Or.inr rfl)) (bnd_name (by decide) (by decide))
    (s_one (s_expr (p_mut PySem.F.slot_list_append PySem.F.type_list_append mt_append mu_append (pv 3) (by decide) (p_aconsE (p_up (p_tup (p_aconsD (p_bin op_addA ok_addA (p_dat (p_fnB cr_lenD rfl ev.blt.len bt_len (p_aconsB (p_varB (pv 7)) p_anil))) (p_varB (pv 4))) (p_aconsD (p_fnB (cr_min2D rfl hr.units) rfl ev.blt.min bt_min (p_aconsB (p_varB (pv 7)) (p_aconsB (p_varB (pv 5)) p_anil))) (p_aconsD (p_fnB (cr_max2D rfl hr.units) rfl ev.blt.max bt_max (p_aconsB (p_varB (pv 7)) (p_aconsB (p_varB (pv 5)) p_anil))) p_anil))) (len_cons (len_cons (len_cons len_nil))))) p_anilE)))))
    (s_one (s_put hr.units (pv 2) (by decide) (p_up (p_var (pv 6))) (p_up (p_bin op_addA ok_addA (p_dat (p_get2 hr.units (p_varB (pv 2)) (p_varB (pv 6)) (p_fre (p_lst p_anil len_nil)) ⟨rfl, rfl, rfl, rfl⟩)) (p_dat (p_fre (p_lst (p_aconsD (p_var (pv 5)) p_anil) (len_cons len_nil)))))))))))))
    (s_one (s_weak (O1 := []) (s_ret' (p_if (p_cmpT (op_neB hr.units) ok_rB (p_varB (pv 3)) (p_dat (p_fre (p_lst p_anil len_nil))) rfl) (p_tup (p_aconsD p_str (p_aconsD (p_slc (p_dat (p_fnB (cr_minD rfl hr.units) rfl ev.blt.min bt_min (p_aconsB (p_varB (pv 3)) p_anil))) (p_toB (p_dat p_int)) p_noB) p_anil)) (len_cons (len_cons len_nil))) (p_tup (p_aconsD p_str p_anil) (len_cons len_nil))))))))
abbrev s_shared_letters : Stmt := topS 18
abbrev N_shared_letters : List Str := ["tongues", "rows", "tongue", "sign", "row"]
theorem sc_shared_letters : FnScope N_shared_letters ["tongues"] (defScope s_shared_letters) := ⟨rfl, rfl, rfl, by decide +kernel, rfl, by decide +kernel, by decide +kernel⟩
def m_shared_letters : PL.Env → Option (Fl × PL.Env) :=
  (seqS
    (asgS 1 (lc (anyI (var 0)) [2] (bN 2) yesT (op2 ixA (var 0) (var 2))))
    (retS (fn tupleD (acons (lc (anyI (cst (.str "abcdefghijklmnopqrstuvwxyz"))) [3] (bN 3) (andT (tru (op2 (bD neB) (var 1) (lst anil))) (tru (fn allD (acons (lc (anyI (var 1)) [4] (bN 4) yesT (op2 (bD inB) (var 3) (var 4))) anil)))) (var 3)) anil))))
def k_shared_letters : List D → Option D := bodyD 5 m_shared_letters
theorem d_shared_letters (ev : Ev K mg) : Df P w K mg base 1 "shared_letters" (SpP K 1 k_shared_letters) :=
  d_pure (lv := 0) (O' := []) ev.shared_letters sc_shared_letters rfl fun fa cdv A outer s H E hr =>
    (s_cons
    (s_asg (ps_set (i := 1) sc_shared_letters.nd rfl (.inr rfl) (p_fre (p_lc (own := [("tongue", 2)]) rfl sc_shared_letters.nd (blkOk_by (N := N_shared_letters) (sc := defScope s_shared_letters) (by first | decide +kernel | rfl)) (i_any (p_var (pv 0))) (fun _ _ _ _ _ => (pg_name (i := 2) sc_shared_letters.nd rfl (by first | exact Or.inl rfl | exact Or.inr rfl))) (bnd_name (by decide) (by decide)) (fun _ _ _ _ _ => pts0) (fun _ _ _ _ _ => (p_ix (ix_A hr.units) ok_ixA (p_varB (pv 0)) (p_varB (pv 2))))))) (fun _ _ _ h => h))
    (s_one (s_ret' (p_fnT cr_tupleD rfl ev.blt.tuple bt_tuple (p_aconsB (p_dat (p_fre (p_lc (own := [("sign", 3)]) rfl sc_shared_letters.nd (blkOk_by (N := N_shared_letters) (sc := defScope s_shared_letters) (by first | decide +kernel | rfl)) (i_any p_str) (fun _ _ _ _ _ => (pg_name (i := 3) sc_shared_letters.nd rfl (by first | exact Or.inl rfl | exact Or.inr rfl))) (bnd_name (by decide) (by decide)) (fun _ _ _ _ _ => (pts_one (L2.PW.pt (p_and (p_cmpT (op_neB hr.units) ok_rB (p_varB (pv 1)) (p_dat (p_fre (p_lst p_anil len_nil))) rfl) (p_and1 (p_valT (p_dat (p_fnB (cr_allD rfl) rfl ev.blt.all bt_all (p_aconsB (p_dat (p_fre (p_lc (own := [("row", 4)]) rfl sc_shared_letters.nd (blkOk_by (N := N_shared_letters) (sc := _) (by first | decide +kernel | rfl)) (i_any (p_var (pv 1))) (fun _ _ _ _ _ => (pg_name (i := 4) sc_shared_letters.nd rfl (by first | exact Or.inl rfl | exact Or.inr rfl))) (bnd_name (by decide) (by decide)) (fun _ _ _ _ _ => pts0) (fun _ _ _ _ _ => (p_cmp (op_in2 hr.units) ok_in (p_varB (pv 3)) (p_varB (pv 4)) rfl))))) p_anil))))))))) (fun _ _ _ _ _ => (p_var (pv 3)))))) p_anil)))))
abbrev s_order_kept : Stmt := topS 19
abbrev N_order_kept : List Str := ["tongues", "one", "other", "first", "sign"]
theorem sc_order_kept : FnScope N_order_kept ["tongues", "one", "other"] (defScope s_order_kept) := ⟨rfl, rfl, rfl, by decide +kernel, rfl, by decide +kernel, by decide +kernel⟩
def m_order_kept : PL.Env → Option (Fl × PL.Env) :=
  (seqS
    (asgS 3 (lc (anyI (op2 ixA (var 0) (var 1))) [4] (bN 4) (tru (op2 (bD inB) (var 4) (op2 ixA (var 0) (var 2)))) (var 4)))
    (retS (op2 (bD eqB) (var 3) (lc (anyI (op2 ixA (var 0) (var 2))) [4] (bN 4) (tru (op2 (bD inB) (var 4) (op2 ixA (var 0) (var 1)))) (var 4)))))
def k_order_kept : List D → Option D := bodyD 5 m_order_kept
theorem d_order_kept (ev : Ev K mg) : Df P w K mg base 1 "order_kept" (SpP K 3 k_order_kept) :=
  d_pure (lv := 0) (O' := []) ev.order_kept sc_order_kept rfl fun fa cdv A outer s H E hr =>
    (s_cons
    (s_post (O2 := []) (s_lc (own := [("sign", 4)]) (i := 3) rfl sc_order_kept.nd rfl rfl (sw_true rfl rfl rfl (by first | decide +kernel | rfl)) (blkOk_by (N := N_order_kept) (sc := defScope s_order_kept) (by first | decide +kernel | rfl)) (i_any (p_ix (ix_A hr.units) ok_ixA (p_varB (pv 0)) (p_varB (pv 1)))) (fun _ _ _ _ _ => (pg_name (i := 4) sc_order_kept.nd rfl (by first | exact Or.inl rfl | exact Or.inr rfl))) (bnd_name (by decide) (by decide)) (fun _ _ _ _ _ => (pts_one (p_cmpT (op_in2 hr.units) ok_in (p_varB (pv 4)) (p_dat (p_ix (ix_A hr.units) ok_ixA (p_varB (pv 0)) (p_varB (pv 2)))) rfl))) (fun _ _ _ _ _ => (p_var (pv 4)))))
    (s_one (s_ret' (p_cmp (op_eqB hr.units) ok_rB (p_varB (pv 3)) (p_dat (p_fre (p_lc (own := [("sign", 4)]) rfl sc_order_kept.nd (blkOk_by (N := N_order_kept) (sc := defScope s_order_kept) (by first | decide +kernel | rfl)) (i_any (p_ix (ix_A hr.units) ok_ixA (p_varB (pv 0)) (p_varB (pv 2)))) (fun _ _ _ _ _ => (pg_name (i := 4) sc_order_kept.nd rfl (by first | exact Or.inl rfl | exact Or.inr rfl))) (bnd_name (by decide) (by decide)) (fun _ _ _ _ _ => (pts_one (p_cmpT (op_in2 hr.units) ok_in (p_varB (pv 4)) (p_dat (p_ix (ix_A hr.units) ok_ixA (p_varB (pv 0)) (p_varB (pv 1)))) rfl))) (fun _ _ _ _ _ => (p_var (pv 4)))))) rfl))))
abbrev s__law_draws : Stmt := topS 21
abbrev N__law_draws : List Str := ["script", "many", "draws", "mixed", "k", "cell", "rest", "turn"]
theorem sc__law_draws : FnScope N__law_draws ["script", "many"] (defScope s__law_draws) := ⟨rfl, rfl, rfl, by decide +kernel, rfl, by decide +kernel, by decide +kernel⟩
def m__law_draws : PL.Env → Option (Fl × PL.Env) :=
  (seqS
    (asgS 2 (lst anil))
    (seqS
    (asgS 3 (cst (.int 7)))
    (seqS
    (forS (rng (acons (fn lenD (acons (var 0) anil)) anil)) (bN 4)
    (seqS
    (asgS 5 (fn absD (acons (fn intD (acons (op2 ixA (var 0) (var 4)) anil)) anil)))
    (seqS
    (asgS 3 (op2 modD (fn intD (acons (op2 addA (op2 addA (op2 mul2D (var 3) (cst (.int 48271))) (op2 modD (var 5) (cst (.int 1000003)))) (var 4)) anil)) (cst (.int 65537))))
    (seqS
    (asgS 6 (cst (.int 0)))
    (seqS
    (ifS (tru (op2 (bD geB) (var 5) (op2 powD (cst (.int 10)) (cst (.int 18)))))
    (asgS 6 (var 5))
    (seqS
    (exprS (mutL 2 appendD (aconsE (up (op2 modD (fn intD (acons (var 5) anil)) (cst (.int 997)))) anilE)))
    (exprS (mutL 2 appendD (aconsE (up (op2 modD (op2 modD (fn intD (acons (op2 addA (op2 mul2D (var 3) (cst (.int 69621))) (cst (.int 5))) anil)) (cst (.int 65521))) (cst (.int 997)))) anilE)))))
    (forS (rng (acons (cst (.int 60)) anil)) (bN 7)
    (ifS (tru (op2 (bD gtB) (var 6) (cst (.int 0))))
    (seqS
    (exprS (mutL 2 appendD (aconsE (up (op2 modD (fn intD (acons (var 6) anil)) (cst (.int 997)))) anilE)))
    (asgS 6 (op2 fdivD (var 6) (cst (.int 997)))))
    nilS)))))))
    (seqS
    (forS (rng (acons (var 1) anil)) (bN 4)
    (seqS
    (asgS 3 (op2 modD (fn intD (acons (op2 addA (op2 addA (op2 mul2D (var 3) (cst (.int 16807))) (var 4)) (cst (.int 1))) anil)) (cst (.int 65537))))
    (exprS (mutL 2 appendD (aconsE (up (op2 modD (fn intD (acons (var 3) anil)) (cst (.int 997)))) anilE)))))
    (retS (slc (var 2) noB (toB (var 1))))))))
def k__law_draws : List D → Option D := bodyD 8 m__law_draws
theorem d__law_draws (ev : Ev K mg) : Df P w K mg base 1 "_law_draws" (SpP K 2 k__law_draws) :=
  d_pure (lv := 0) (O' := []) ev._law_draws sc__law_draws rfl fun fa cdv A outer s H E hr =>
    (s_cons
    (s_own (ps_set (i := 2) sc__law_draws.nd rfl (.inl rfl) (p_lst p_anil len_nil)) (fun _ _ _ h => h))
    (s_cons
    (s_asg (ps_set (i := 3) sc__law_draws.nd rfl (.inl rfl) p_int) (fun _ _ _ h => h))
    (s_cons
    (s_for (vs := [4]) PassesOwn.never rfl (i_rng1 (per := true) rfl ev.blt.range (p_aconsB (p_dat (p_fnB cr_lenD rfl ev.blt.len bt_len (p_aconsB (p_varB (pv 0)) p_anil))) p_anil) (len_cons len_nil)) (pg_name (i := 4) sc__law_draws.nd rfl (by first | exact Or.inl rfl | exact Or.inr rfl)) (bnd_name (by decide) (by decide))
    (s_cons
    (s_asg (ps_set (i := 5) sc__law_draws.nd rfl (.inl rfl) (p_fnB cr_absD rfl ev.blt.abs bt_abs (p_aconsB (p_dat (p_fnT cr_intD rfl ev.blt.int bt_int (p_aconsB (p_dat (p_ix (ix_A hr.units) ok_ixA (p_varB (pv 0)) (p_varB (pv 4)))) p_anil))) p_anil))) (fun _ _ _ h => h))
    (s_cons
    (s_asg (ps_set (i := 3) sc__law_draws.nd rfl (.inl rfl) (p_bin op_mod ok_mod (p_dat (p_fnT cr_intD rfl ev.blt.int bt_int (p_aconsB (p_dat (p_bin op_addA ok_addA (p_dat (p_bin op_addA ok_addA (p_dat (p_bin op_mul2 ok_mul2 (p_varB (pv 3)) (p_dat p_int))) (p_dat (p_bin op_mod ok_mod (p_varB (pv 5)) (p_dat p_int))))) (p_varB (pv 4)))) p_anil))) (p_dat p_int))) (fun _ _ _ h => h))
    (s_cons
    (s_asg (ps_set (i := 6) sc__law_draws.nd rfl (.inl rfl) p_int) (fun _ _ _ h => h))
    (s_cons
    (s_if (p_cmpT (op_geB hr.units) ok_rB (p_varB (pv 5)) (p_dat (p_bin op_pow ok_pow (p_dat p_int) (p_dat p_int))) rfl)
    (s_one (s_asg (ps_set (i := 6) sc__law_draws.nd rfl (.inl rfl) (p_var (pv 5))) (fun _ _ _ h => h)))
    (s_cons
    (s_expr (p_mut PySem.F.slot_list_append PySem.F.type_list_append mt_append mu_append (pv 2) (by decide) (p_aconsE (p_up (p_bin op_mod ok_mod (p_dat (p_fnT cr_intD rfl ev.blt.int bt_int (p_aconsB (p_varB (pv 5)) p_anil))) (p_dat p_int))) p_anilE)))
    (s_one (s_expr (p_mut PySem.F.slot_list_append PySem.F.type_list_append mt_append mu_append (pv 2) (by decide) (p_aconsE (p_up (p_bin op_mod ok_mod (p_dat (p_bin op_mod ok_mod (p_dat (p_fnT cr_intD rfl ev.blt.int bt_int (p_aconsB (p_dat (p_bin op_addA ok_addA (p_dat (p_bin op_mul2 ok_mul2 (p_varB (pv 3)) (p_dat p_int))) (p_dat p_int))) p_anil))) (p_dat p_int))) (p_dat p_int))) p_anilE))))))
    (s_one (s_for (vs := [7]) PassesOwn.never rfl (i_rng1 (per := true) rfl ev.blt.range (p_aconsB (p_dat p_int) p_anil) (len_cons len_nil)) (pg_name (i := 7) sc__law_draws.nd rfl (by first | exact Or.inl rfl | exact Or.inr rfl)) (bnd_name (by decide) (by decide))
    (s_one (s_if (p_cmpT (op_gtB hr.units) ok_rB (p_varB (pv 6)) (p_dat p_int) rfl)
    (s_cons
    (s_expr (p_mut PySem.F.slot_list_append PySem.F.type_list_append mt_append mu_append (pv 2) (by decide) (p_aconsE (p_up (p_bin op_mod ok_mod (p_dat (p_fnT cr_intD rfl ev.blt.int bt_int (p_aconsB (p_varB (pv 6)) p_anil))) (p_dat p_int))) p_anilE)))
    (s_one (s_asg (ps_set (i := 6) sc__law_draws.nd rfl (.inl rfl) (p_bin op_fdiv ok_fdiv (p_varB (pv 6)) (p_dat p_int))) (fun _ _ _ h => h))))
    s_nil)))))))))
    (s_cons
    (s_for (vs := [4]) PassesOwn.never rfl (i_rng1 (per := true) rfl ev.blt.range (p_aconsB (p_varB (pv 1)) p_anil) (len_cons len_nil)) (pg_name (i := 4) sc__law_draws.nd rfl (by first | exact Or.inl rfl | exact Or.inr rfl)) (bnd_name (by decide) (by decide))
    (s_cons
    (s_asg (ps_set (i := 3) sc__law_draws.nd rfl (.inl rfl) (p_bin op_mod ok_mod (p_dat (p_fnT cr_intD rfl ev.blt.int bt_int (p_aconsB (p_dat (p_bin op_addA ok_addA (p_dat (p_bin op_addA ok_addA (p_dat (p_bin op_mul2 ok_mul2 (p_varB (pv 3)) (p_dat p_int))) (p_varB (pv 4)))) (p_dat p_int))) p_anil))) (p_dat p_int))) (fun _ _ _ h => h))
    (s_one (s_expr (p_mut PySem.F.slot_list_append PySem.F.type_list_append mt_append mu_append (pv 2) (by decide) (p_aconsE (p_up (p_bin op_mod ok_mod (p_dat (p_fnT cr_intD rfl ev.blt.int bt_int (p_aconsB (p_varB (pv 3)) p_anil))) (p_dat p_int))) p_anilE))))))
    (s_one (s_weak (O1 := []) (s_ret' (p_slc (p_varB (pv 2)) p_noB (p_toB (p_varB (pv 1)))))))))))
abbrev s__law_next : Stmt := topS 22
abbrev N__law_next : List Str := ["w", "many"]
theorem sc__law_next : FnScope N__law_next ["w", "many"] (defScope s__law_next) := ⟨rfl, rfl, rfl, by decide +kernel, rfl, by decide +kernel, by decide +kernel⟩
def m__law_next : PL.Env → Option (Fl × PL.Env) :=
  (seqS
    (augS 0 (iopD fun i j => i + j) (up (cst (.str "at"))) (up (cst (.int 1))))
    (seqS
    (ifS (tru (op2 (bD gtB) (op2 ixA (var 0) (cst (.str "at"))) (fn lenD (acons (op2 ixA (var 0) (cst (.str "draws"))) anil))))
    (retS (cst (.int 0)))
    nilS)
    (retS (op2 modD (fn intD (acons (op2 ixA (op2 ixA (var 0) (cst (.str "draws"))) (op2 subD (op2 ixA (var 0) (cst (.str "at"))) (cst (.int 1)))) anil)) (var 1)))))
def k__law_next : D → List D → Option (D × D) := bodyW 2 m__law_next
theorem d__law_next (ev : Ev K mg) : Df P w K mg base 1 "_law_next" (SpW K 2 k__law_next) :=
  d_w (lv := 0) (O' := []) ev._law_next sc__law_next rfl fun fa cdv A outer s H E hr =>
    (s_cons
    (s_augS hr.units (pv 0) (by decide) (p_up p_str) (p_up p_int) ip_add ok_iop (pget_dict hr.units))
    (s_cons
    (s_if (p_cmpT (op_gtB hr.units) ok_rB (p_dat (p_ix (ix_A hr.units) ok_ixA (p_varB (pv 0)) (p_dat p_str))) (p_dat (p_fnB cr_lenD rfl ev.blt.len bt_len (p_aconsB (p_dat (p_ix (ix_A hr.units) ok_ixA (p_varB (pv 0)) (p_dat p_str))) p_anil))) rfl)
    (s_one (s_ret' p_int))
    s_nil)
    (s_one (s_ret' (p_bin op_mod ok_mod (p_dat (p_fnT cr_intD rfl ev.blt.int bt_int (p_aconsB (p_dat (p_ix (ix_A hr.units) ok_ixA (p_dat (p_ix (ix_A hr.units) ok_ixA (p_varB (pv 0)) (p_dat p_str))) (p_dat (p_bin op_sub ok_sub (p_dat (p_ix (ix_A hr.units) ok_ixA (p_varB (pv 0)) (p_dat p_str))) (p_dat p_int))))) p_anil))) (p_varB (pv 1)))))))
abbrev s__law_pick : Stmt := topS 23
abbrev N__law_pick : List Str := ["w", "rows"]
theorem sc__law_pick : FnScope N__law_pick ["w", "rows"] (defScope s__law_pick) := ⟨rfl, rfl, rfl, by decide +kernel, rfl, by decide +kernel, by decide +kernel⟩
def m__law_pick : PL.Env → Option (Fl × PL.Env) :=
  (retE (op2E ixA (up (var 1)) (fnW 0 k__law_next (aconsE (up (fn lenD (acons (var 1) anil))) anilE))))
def k__law_pick : D → List D → Option (D × D) := bodyW 2 m__law_pick
theorem d__law_pick (ev : Ev K mg) : Df P w K mg base 2 "_law_pick" (SpW K 2 k__law_pick) :=
  d_w (lv := 1) (O' := []) ev._law_pick sc__law_pick rfl fun fa cdv A outer s H E hr =>
    (s_one (s_retE' (p_ixE (ix_A hr.units) ok_ixA (p_up (p_var (pv 1))) (p_callW (d__law_next ev) (hr.mono (by omega)) rfl (pv 0) (by decide) (p_aconsE (p_up (p_fnB cr_lenD rfl ev.blt.len bt_len (p_aconsB (p_varB (pv 1)) p_anil))) p_anilE) (len_consE len_nilE)))))
abbrev s__law_says : Stmt := topS 24
abbrev N__law_says : List Str := ["seen", "due"]
theorem sc__law_says : FnScope N__law_says ["seen", "due"] (defScope s__law_says) := ⟨rfl, rfl, rfl, by decide +kernel, rfl, by decide +kernel, by decide +kernel⟩
def m__law_says : PL.Env → Option (Fl × PL.Env) :=
  (retS (andV (op1 (instD .bool) (var 0)) (op2 (bD eqB) (var 0) (var 1))))
def k__law_says : List D → Option D := bodyD 2 m__law_says
theorem d__law_says (ev : Ev K mg) : Df P w K mg base 1 "_law_says" (SpP K 2 k__law_says) :=
  d_pure (lv := 0) (O' := []) ev._law_says sc__law_says rfl fun fa cdv A outer s H E hr =>
    (s_one (s_ret' (p_andV (p_dat (p_inst .bool rfl ev.blt.isinstance (p_var (pv 0)) rfl ev.blt.bool bt_bool)) (p_one (p_cmp (op_eqB hr.units) ok_rB (p_varB (pv 0)) (p_varB (pv 1)) rfl)))))
abbrev s__law_same : Stmt := topS 25
abbrev N__law_same : List Str := ["seen", "due", "k"]
theorem sc__law_same : FnScope N__law_same ["seen", "due"] (defScope s__law_same) := ⟨rfl, rfl, rfl, by decide +kernel, rfl, by decide +kernel, by decide +kernel⟩
def m__law_same (rec : List D → Option D) : PL.Env → Option (Fl × PL.Env) :=
  (seqS
    (ifS (tru (op1 (instD .tuple) (var 1)))
    (seqS
    (ifS (orT (notT (tru (op1 (instD .tuple) (var 0)))) (tru (op2 (bD neB) (fn lenD (acons (var 0) anil)) (fn lenD (acons (var 1) anil)))))
    (retS (cst (.bool false)))
    nilS)
    (retS (op2 (bD eqB) (lc (rng (acons (fn lenD (acons (var 1) anil)) anil)) [2] (bN 2) (notT (tru (fn (rec) (acons (op2 ixA (var 0) (var 2)) (acons (op2 ixA (var 1) (var 2)) anil))))) (var 2)) (lst anil))))
    nilS)
    (seqS
    (ifS (tru (op2 (bD isB) (var 1) (cst .none)))
    (retS (op2 (bD isB) (var 0) (cst .none)))
    nilS)
    (seqS
    (ifS (tru (op1 (instD .str) (var 1)))
    (retS (andV (op1 (instD .str) (var 0)) (op2 (bD eqB) (var 0) (var 1))))
    nilS)
    (retS (andV (op1 (instD .int) (var 0)) (andV (op2 (bD eqB) (op1 (instD .bool) (var 0)) (op1 (instD .bool) (var 1))) (op2 (bD eqB) (var 0) (var 1))))))))
def k__law_same : Nat → List D → Option D
  | 0 => fun _ => none
  | n + 1 => bodyD 3 (m__law_same (k__law_same n))
theorem d__law_same (ev : Ev K mg) : ∀ n, Df P w K mg base (1 + n) "_law_same" (SpP K 2 (k__law_same n))
  | 0 => (d_bot (lv := 0) ev._law_same sc__law_same rfl)
  | n + 1 => by
    have drec := d__law_same ev n
    exact d_pure (lv := 1 + n) (O' := []) ev._law_same sc__law_same rfl fun fa cdv A outer s H E hr =>
    (s_cons
    (s_if (p_valT (p_dat (p_inst .tuple rfl ev.blt.isinstance (p_var (pv 1)) rfl ev.blt.tuple bt_tuple)))
    (s_cons
    (s_if (L2.PW.pt (p_or (p_not (p_valT (p_dat (p_inst .tuple rfl ev.blt.isinstance (p_var (pv 0)) rfl ev.blt.tuple bt_tuple)))) (p_or1 (p_cmpT (op_neB hr.units) ok_rB (p_dat (p_fnB cr_lenD rfl ev.blt.len bt_len (p_aconsB (p_varB (pv 0)) p_anil))) (p_dat (p_fnB cr_lenD rfl ev.blt.len bt_len (p_aconsB (p_varB (pv 1)) p_anil))) rfl))))
    (s_one (s_ret' p_bl))
    s_nil)
    (s_one (s_ret' (p_cmp (op_eqB hr.units) ok_rB (p_dat (p_fre (p_lc (own := [("k", 2)]) rfl sc__law_same.nd (blkOk_by (N := N__law_same) (sc := defScope s__law_same) (by first | decide +kernel | rfl)) (i_rng1 (per := true) rfl ev.blt.range (p_aconsB (p_dat (p_fnB cr_lenD rfl ev.blt.len bt_len (p_aconsB (p_varB (pv 1)) p_anil))) p_anil) (len_cons len_nil)) (fun _ _ _ _ _ => (pg_name (i := 2) sc__law_same.nd rfl (by first | exact Or.inl rfl | exact Or.inr rfl))) (bnd_name (by decide) (by decide)) (fun _ _ _ _ _ => (pts_one (p_not (p_valT (p_dat (p_call drec (hr.mono (by omega)) rfl (p_aconsD (p_ix (ix_A hr.units) ok_ixA (p_varB (pv 0)) (p_varB (pv 2))) (p_aconsD (p_ix (ix_A hr.units) ok_ixA (p_varB (pv 1)) (p_varB (pv 2))) p_anil)) (hlen := (len_cons (len_cons len_nil))))))))) (fun _ _ _ _ _ => (p_var (pv 2)))))) (p_dat (p_fre (p_lst p_anil len_nil))) rfl))))
    s_nil)
    (s_cons
    (s_if (p_cmpT op_isB ok_rB (p_varB (pv 1)) (p_dat p_non) rfl)
    (s_one (s_ret' (p_cmp op_isB ok_rB (p_varB (pv 0)) (p_dat p_non) rfl)))
    s_nil)
    (s_cons
    (s_if (p_valT (p_dat (p_inst .str rfl ev.blt.isinstance (p_var (pv 1)) rfl ev.blt.str bt_str)))
    (s_one (s_ret' (p_andV (p_dat (p_inst .str rfl ev.blt.isinstance (p_var (pv 0)) rfl ev.blt.str bt_str)) (p_one (p_cmp (op_eqB hr.units) ok_rB (p_varB (pv 0)) (p_varB (pv 1)) rfl)))))
    s_nil)
    (s_one (s_ret' (p_andV (p_dat (p_inst .int rfl ev.blt.isinstance (p_var (pv 0)) rfl ev.blt.int bt_int)) (p_andV (p_dat (p_cmp (op_eqB hr.units) ok_rB (p_dat (p_inst .bool rfl ev.blt.isinstance (p_var (pv 0)) rfl ev.blt.bool bt_bool)) (p_dat (p_inst .bool rfl ev.blt.isinstance (p_var (pv 1)) rfl ev.blt.bool bt_bool)) rfl)) (p_one (p_cmp (op_eqB hr.units) ok_rB (p_varB (pv 0)) (p_varB (pv 1)) rfl)))))))))
abbrev s__law_fraction : Stmt := topS 26
abbrev N__law_fraction : List Str := ["a", "b", "x", "y"]
theorem sc__law_fraction : FnScope N__law_fraction ["a", "b"] (defScope s__law_fraction) := ⟨rfl, rfl, rfl, by decide +kernel, rfl, by decide +kernel, by decide +kernel⟩
def m__law_fraction : PL.Env → Option (Fl × PL.Env) :=
  (seqS
    (parS [2, 3] (aconsE (up (fn absD (acons (var 0) anil))) (aconsE (up (fn absD (acons (var 1) anil))) anilE)))
    (seqS
    (whileF (tru (op2 (bD neB) (var 3) (cst (.int 0))))
    (parS [2, 3] (aconsE (up (var 3)) (aconsE (up (op2 modD (var 2) (var 3))) anilE))) 1000)
    (retS (ifE (tru (op2 (bD gtB) (var 1) (cst (.int 0)))) (tup (acons (op2 fdivD (var 0) (var 2)) (acons (op2 fdivD (var 1) (var 2)) anil))) (tup (acons (op2 subD (cst (.int 0)) (op2 fdivD (var 0) (var 2))) (acons (op2 subD (cst (.int 0)) (op2 fdivD (var 1) (var 2))) anil)))))))
def k__law_fraction : List D → Option D := bodyD 4 m__law_fraction
theorem d__law_fraction (ev : Ev K mg) : Df P w K mg base 1 "_law_fraction" (SpP K 2 k__law_fraction) :=
  d_pure (lv := 0) (O' := []) ev._law_fraction sc__law_fraction rfl fun fa cdv A outer s H E hr =>
    (s_cons
    (s_par (i := 2) (j := 3) rfl sc__law_fraction.nd rfl rfl rfl rfl (m_dat (p_up (p_fnB cr_absD rfl ev.blt.abs bt_abs (p_aconsB (p_varB (pv 0)) p_anil))) (m_dat (p_up (p_fnB cr_absD rfl ev.blt.abs bt_abs (p_aconsB (p_varB (pv 1)) p_anil))) m_nil)) rfl rfl)
    (s_cons
    (s_while (N := 1000) PassesOwn.never (p_cmpT (op_neB hr.units) ok_rB (p_varB (pv 3)) (p_dat p_int) rfl)
    (s_one (s_par (i := 2) (j := 3) rfl sc__law_fraction.nd rfl rfl rfl rfl (m_dat (p_up (p_var (pv 3))) (m_dat (p_up (p_bin op_mod ok_mod (p_varB (pv 2)) (p_varB (pv 3)))) m_nil)) rfl rfl)))
    (s_one (s_ret' (p_if (p_cmpT (op_gtB hr.units) ok_rB (p_varB (pv 1)) (p_dat p_int) rfl) (p_tup (p_aconsD (p_bin op_fdiv ok_fdiv (p_varB (pv 0)) (p_varB (pv 2))) (p_aconsD (p_bin op_fdiv ok_fdiv (p_varB (pv 1)) (p_varB (pv 2))) p_anil)) (len_cons (len_cons len_nil))) (p_tup (p_aconsD (p_bin op_sub ok_sub (p_dat p_int) (p_dat (p_bin op_fdiv ok_fdiv (p_varB (pv 0)) (p_varB (pv 2))))) (p_aconsD (p_bin op_sub ok_sub (p_dat p_int) (p_dat (p_bin op_fdiv ok_fdiv (p_varB (pv 1)) (p_varB (pv 2))))) p_anil)) (len_cons (len_cons len_nil))))))))
abbrev s__law_less : Stmt := topS 30
abbrev N__law_less : List Str := ["one", "other"]
theorem sc__law_less : FnScope N__law_less ["one", "other"] (defScope s__law_less) := ⟨rfl, rfl, rfl, by decide +kernel, rfl, by decide +kernel, by decide +kernel⟩
def m__law_less : PL.Env → Option (Fl × PL.Env) :=
  (retS (op2 (bD ltB) (op2 mul2D (op2 ixA (var 0) (cst (.int 0))) (op2 ixA (var 1) (cst (.int 1)))) (op2 mul2D (op2 ixA (var 1) (cst (.int 0))) (op2 ixA (var 0) (cst (.int 1))))))
def k__law_less : List D → Option D := bodyD 2 m__law_less
theorem d__law_less (ev : Ev K mg) : Df P w K mg base 1 "_law_less" (SpP K 2 k__law_less) :=
  d_pure (lv := 0) (O' := []) ev._law_less sc__law_less rfl fun fa cdv A outer s H E hr =>
    (s_one (s_ret' (p_cmp (op_ltB hr.units) ok_rB (p_dat (p_bin op_mul2 ok_mul2 (p_dat (p_ix (ix_A hr.units) ok_ixA (p_varB (pv 0)) (p_dat p_int))) (p_dat (p_ix (ix_A hr.units) ok_ixA (p_varB (pv 1)) (p_dat p_int))))) (p_dat (p_bin op_mul2 ok_mul2 (p_dat (p_ix (ix_A hr.units) ok_ixA (p_varB (pv 1)) (p_dat p_int))) (p_dat (p_ix (ix_A hr.units) ok_ixA (p_varB (pv 0)) (p_dat p_int))))) rfl)))
abbrev s__law_alphabet : Stmt := topS 33
abbrev N__law_alphabet : List Str := ["w", "letters", "left", "found"]
theorem sc__law_alphabet : FnScope N__law_alphabet ["w", "letters"] (defScope s__law_alphabet) := ⟨rfl, rfl, rfl, by decide +kernel, rfl, by decide +kernel, by decide +kernel⟩
def m__law_alphabet : PL.Env → Option (Fl × PL.Env) :=
  (seqS
    (parS [2, 3] (aconsE (up (fn listA (acons (var 1) anil))) (aconsE (up (cst (.str ""))) anilE)))
    (seqS
    (whileF (tru (op2 (bD neB) (var 2) (lst anil)))
    (asgE 3 (op2E addA (up (var 3)) (mutL 2 popAtD (aconsE (fnW 0 k__law_next (aconsE (up (fn lenD (acons (var 2) anil))) anilE)) anilE)))) 1000)
    (retS (var 3))))
def k__law_alphabet : D → List D → Option (D × D) := bodyW 4 m__law_alphabet
theorem d__law_alphabet (ev : Ev K mg) : Df P w K mg base 2 "_law_alphabet" (SpW K 2 k__law_alphabet) :=
  d_w (lv := 1) (O' := []) ev._law_alphabet sc__law_alphabet rfl fun fa cdv A outer s H E hr =>
    (s_cons
    (s_par (i := 2) (j := 3) rfl sc__law_alphabet.nd rfl rfl rfl rfl (m_fre (p_fnT (cr_listA rfl) rfl ev.blt.list bt_list (p_aconsB (p_varB (pv 1)) p_anil)) (m_dat (p_up p_str) m_nil)) rfl rfl)
    (s_cons
    (s_while (N := 1000) PassesOwn.never (p_cmpT (op_neB hr.units) ok_rB (p_varB (pv 2)) (p_dat (p_fre (p_lst p_anil len_nil))) rfl)
    (s_one (s_asgE (ps_set (i := 3) sc__law_alphabet.nd rfl (.inl rfl) (p_binE op_addA ok_addA (p_up (p_var (pv 3))) (p_mut PySem.F.slot_list_pop PySem.F.type_list_pop mt_popAt mu_popAt (pv 2) (by decide) (p_aconsE (p_callW (d__law_next ev) (hr.mono (by omega)) rfl (pv 0) (by decide) (p_aconsE (p_up (p_fnB cr_lenD rfl ev.blt.len bt_len (p_aconsB (p_varB (pv 2)) p_anil))) p_anilE) (len_consE len_nilE)) p_anilE)))) (fun _ _ _ h => h))))
    (s_one (s_weak (O1 := [0]) (s_ret' (p_var (pv 3)))))))
abbrev s__law_key : Stmt := topS 34
abbrev N__law_key : List Str := ["alphabet", "name", "sign"]
theorem sc__law_key : FnScope N__law_key ["alphabet", "name"] (defScope s__law_key) := ⟨rfl, rfl, rfl, by decide +kernel, rfl, by decide +kernel, by decide +kernel⟩
def m__law_key : PL.Env → Option (Fl × PL.Env) :=
  (retS (fn tupleD (acons (lc (anyI (var 1)) [2] (bN 2) yesT (op2 indexB (var 0) (var 2))) anil)))
def k__law_key : List D → Option D := bodyD 3 m__law_key
theorem d__law_key (ev : Ev K mg) : Df P w K mg base 1 "_law_key" (SpP K 2 k__law_key) :=
  d_pure (lv := 0) (O' := []) ev._law_key sc__law_key rfl fun fa cdv A outer s H E hr =>
    (s_one (s_ret' (p_fnT cr_tupleD rfl ev.blt.tuple bt_tuple (p_aconsB (p_dat (p_fre (p_lc (own := [("sign", 2)]) rfl sc__law_key.nd (blkOk_by (N := N__law_key) (sc := defScope s__law_key) (by first | decide +kernel | rfl)) (i_any (p_var (pv 1))) (fun _ _ _ _ _ => (pg_name (i := 2) sc__law_key.nd rfl (by first | exact Or.inl rfl | exact Or.inr rfl))) (bnd_name (by decide) (by decide)) (fun _ _ _ _ _ => pts0) (fun _ _ _ _ _ => (p_indexB hr.units (p_varB (pv 0)) (p_varB (pv 2))))))) p_anil))))
abbrev s__law_written : Stmt := topS 36
abbrev N__law_written : List Str := ["table", "name", "sign"]
theorem sc__law_written : FnScope N__law_written ["table", "name"] (defScope s__law_written) := ⟨rfl, rfl, rfl, by decide +kernel, rfl, by decide +kernel, by decide +kernel⟩
def m__law_written : PL.Env → Option (Fl × PL.Env) :=
  (retS (op2 joinD (cst (.str "")) (lc (anyI (var 1)) [2] (bN 2) yesT (ifE (tru (op2 (bD inB) (var 2) (var 0))) (op2 ixA (var 0) (var 2)) (var 2)))))
def k__law_written : List D → Option D := bodyD 3 m__law_written
theorem d__law_written (ev : Ev K mg) : Df P w K mg base 1 "_law_written" (SpP K 2 k__law_written) :=
  d_pure (lv := 0) (O' := []) ev._law_written sc__law_written rfl fun fa cdv A outer s H E hr =>
    (s_one (s_ret' (p_join (p_dat p_str) (p_dat (p_fre (p_lc (own := [("sign", 2)]) rfl sc__law_written.nd (blkOk_by (N := N__law_written) (sc := defScope s__law_written) (by first | decide +kernel | rfl)) (i_any (p_var (pv 1))) (fun _ _ _ _ _ => (pg_name (i := 2) sc__law_written.nd rfl (by first | exact Or.inl rfl | exact Or.inr rfl))) (bnd_name (by decide) (by decide)) (fun _ _ _ _ _ => pts0) (fun _ _ _ _ _ => (p_if (p_cmpT (op_in2 hr.units) ok_in (p_varB (pv 2)) (p_varB (pv 0)) rfl) (p_ix (ix_A hr.units) ok_ixA (p_varB (pv 0)) (p_varB (pv 2))) (p_var (pv 2))))))))))
abbrev s__law_ahead : Stmt := topS 37
abbrev N__law_ahead : List Str := ["one", "other", "k"]
theorem sc__law_ahead : FnScope N__law_ahead ["one", "other"] (defScope s__law_ahead) := ⟨rfl, rfl, rfl, by decide +kernel, rfl, by decide +kernel, by decide +kernel⟩
def m__law_ahead : PL.Env → Option (Fl × PL.Env) :=
  (seqS
    (forS (rng (acons (fn min2D (acons (fn lenD (acons (var 0) anil)) (acons (fn lenD (acons (var 1) anil)) anil))) anil)) (bN 2)
    (ifS (tru (op2 (bD neB) (op2 ixA (var 0) (var 2)) (op2 ixA (var 1) (var 2))))
    (retS (fn k__law_less (acons (op2 ixA (var 0) (var 2)) (acons (op2 ixA (var 1) (var 2)) anil))))
    nilS))
    (retS (op2 (bD ltB) (fn lenD (acons (var 0) anil)) (fn lenD (acons (var 1) anil)))))
def k__law_ahead : List D → Option D := bodyD 3 m__law_ahead
theorem d__law_ahead (ev : Ev K mg) : Df P w K mg base 2 "_law_ahead" (SpP K 2 k__law_ahead) :=
  d_pure (lv := 1) (O' := []) ev._law_ahead sc__law_ahead rfl fun fa cdv A outer s H E hr =>
    (s_cons
    (s_for (vs := [2]) PassesOwn.never rfl (i_rng1 (per := true) rfl ev.blt.range (p_aconsB (p_dat (p_fnB (cr_min2D rfl hr.units) rfl ev.blt.min bt_min (p_aconsB (p_dat (p_fnB cr_lenD rfl ev.blt.len bt_len (p_aconsB (p_varB (pv 0)) p_anil))) (p_aconsB (p_dat (p_fnB cr_lenD rfl ev.blt.len bt_len (p_aconsB (p_varB (pv 1)) p_anil))) p_anil)))) p_anil) (len_cons len_nil)) (pg_name (i := 2) sc__law_ahead.nd rfl (by first | exact Or.inl rfl | exact Or.inr rfl)) (bnd_name (by decide) (by decide))
    (s_one (s_if (p_cmpT (op_neB hr.units) ok_rB (p_dat (p_ix (ix_A hr.units) ok_ixA (p_varB (pv 0)) (p_varB (pv 2)))) (p_dat (p_ix (ix_A hr.units) ok_ixA (p_varB (pv 1)) (p_varB (pv 2)))) rfl)
    (s_one (s_ret' (p_call (d__law_less ev) (hr.mono (by omega)) rfl (p_aconsD (p_ix (ix_A hr.units) ok_ixA (p_varB (pv 0)) (p_varB (pv 2))) (p_aconsD (p_ix (ix_A hr.units) ok_ixA (p_varB (pv 1)) (p_varB (pv 2))) p_anil)) (hlen := (len_cons (len_cons len_nil))))))
    s_nil)))
    (s_one (s_ret' (p_cmp (op_ltB hr.units) ok_rB (p_dat (p_fnB cr_lenD rfl ev.blt.len bt_len (p_aconsB (p_varB (pv 0)) p_anil))) (p_dat (p_fnB cr_lenD rfl ev.blt.len bt_len (p_aconsB (p_varB (pv 1)) p_anil))) rfl))))
abbrev s__law_clean : Stmt := topS 38
abbrev N__law_clean : List Str := ["table", "letters", "rows", "names", "every", "size", "longer", "name", "sign", "lots", "text", "other"]
theorem sc__law_clean : FnScope N__law_clean ["table", "letters"] (defScope s__law_clean) := ⟨rfl, rfl, rfl, by decide +kernel, rfl, by decide +kernel, by decide +kernel⟩
def m__law_clean : PL.Env → Option (Fl × PL.Env) :=
  (seqS
    (parS [2, 3, 4] (aconsE (up (lst anil)) (aconsE (up (lst (acons (cst (.str "")) anil))) (aconsE (up (lst anil)) anilE))))
    (seqS
    (forS (rng (acons (cst (.int 4)) anil)) (bN 5)
    (seqS
    (asgS 6 (lst anil))
    (seqS
    (forS (anyI (var 3)) (bN 7)
    (asgS 6 (op2 addA (var 6) (lc (anyI (var 1)) [8] (bN 8) yesT (op2 addA (var 7) (var 8))))))
    (parS [3, 4] (aconsE (up (var 6)) (aconsE (up (op2 addA (var 4) (var 6))) anilE))))))
    (seqS
    (asgS 9 dnil)
    (seqS
    (forS (anyI (var 4)) (bN 7)
    (seqS
    (asgS 10 (fn k__law_written (acons (var 0) (acons (var 7) anil))))
    (seqS
    (forS (anyI (op3 get2 (var 9) (var 10) (lst anil))) (bN 11)
    (exprS (mutL 2 appendD (aconsE (up (tup (acons (op2 addA (fn lenD (acons (var 7) anil)) (fn lenD (acons (var 11) anil))) (acons (fn min2D (acons (var 7) (acons (var 11) anil))) (acons (fn max2D (acons (var 7) (acons (var 11) anil))) anil))))) anilE))))
    (putS 9 (up (var 10)) (up (op2 addA (op3 get2 (var 9) (var 10) (lst anil)) (lst (acons (var 7) anil))))))))
    (retS (ifE (tru (op2 (bD neB) (var 2) (lst anil))) (tup (acons (cst (.str "no")) (acons (slc (fn minDD (acons (var 2) anil)) (toB (cst (.int 1))) noB) anil))) (tup (acons (cst (.str "yes")) anil))))))))
def k__law_clean : List D → Option D := bodyD 12 m__law_clean
theorem d__law_clean (ev : Ev K mg) : Df P w K mg base 2 "_law_clean" (SpP K 2 k__law_clean) :=
  d_pure (lv := 1) (O' := []) ev._law_clean sc__law_clean rfl fun fa cdv A outer s H E hr =>
    (s_cons
    (s_par3 (i := 2) (j := 3) (l := 4) rfl sc__law_clean.nd rfl rfl rfl rfl rfl rfl (m_fre (p_lst p_anil len_nil) (m_dat (p_up (p_fre (p_lst (p_aconsD p_str p_anil) (len_cons len_nil)))) (m_dat (p_up (p_fre (p_lst p_anil len_nil))) m_nil))) rfl rfl)
    (s_cons
    (s_for (vs := [5]) PassesOwn.never rfl (i_rng1 (per := true) rfl ev.blt.range (p_aconsB (p_dat p_int) p_anil) (len_cons len_nil)) (pg_name (i := 5) sc__law_clean.nd rfl (by first | exact Or.inl rfl | exact Or.inr rfl)) (bnd_name (by decide) (by decide))
    (s_cons
    (s_asg (ps_set (i := 6) sc__law_clean.nd rfl (.inl rfl) (p_fre (p_lst p_anil len_nil))) (fun _ _ _ h => h))
    (s_cons
    (s_for (vs := [7]) PassesOwn.never rfl (i_any (p_var (pv 3))) (pg_name (i := 7) sc__law_clean.nd rfl (by first | exact Or.inl rfl | exact Or.inr rfl)) (bnd_name (by decide) (by decide))
    (s_one (s_asg (ps_set (i := 6) sc__law_clean.nd rfl (.inl rfl) (p_bin op_addA ok_addA (p_varB (pv 6)) (p_dat (p_fre (p_lc (own := [("sign", 8)]) rfl sc__law_clean.nd (blkOk_by (N := N__law_clean) (sc := defScope s__law_clean) (by first | decide +kernel | rfl)) (i_any (p_var (pv 1))) (fun _ _ _ _ _ => (pg_name (i := 8) sc__law_clean.nd rfl (by first | exact Or.inl rfl | exact Or.inr rfl))) (bnd_name (by decide) (by decide)) (fun _ _ _ _ _ => pts0) (fun _ _ _ _ _ => (p_bin op_addA ok_addA (p_varB (pv 7)) (p_varB (pv 8))))))))) (fun _ _ _ h => h))))
    (s_one (s_par (i := 3) (j := 4) rfl sc__law_clean.nd rfl rfl rfl rfl (m_dat (p_up (p_var (pv 6))) (m_dat (p_up (p_bin op_addA ok_addA (p_varB (pv 4)) (p_varB (pv 6)))) m_nil)) rfl rfl)))))
    (s_cons
    (s_own (ps_set (i := 9) sc__law_clean.nd rfl (.inl rfl) p_dnil) (fun _ _ _ h => h))
    (s_cons
    (s_for (vs := [7]) PassesOwn.never rfl (i_any (p_var (pv 4))) (pg_name (i := 7) sc__law_clean.nd rfl (by first | exact Or.inl rfl | exact Or.inr rfl)) (bnd_name (by decide) (by decide))
    (s_cons
    (s_asg (ps_set (i := 10) sc__law_clean.nd rfl (.inl rfl) (p_call (d__law_written ev) (hr.mono (by omega)) rfl (p_aconsD (p_var (pv 0)) (p_aconsD (p_var (pv 7)) p_anil)) (hlen := (len_cons (len_cons len_nil))))) (fun _ _ _ h => h))
    (s_cons
    (s_for (vs := [11]) PassesOwn.never rfl (i_any (p_get2 hr.units (p_varB (pv 9)) (p_varB (pv 10)) (p_fre (p_lst p_anil len_nil)) ⟨rfl, rfl, rfl, rfl⟩)) (pg_name (i := 11) sc__law_clean.nd rfl (by first | exact Or.inl rfl | exact Or.inr rfl)) (bnd_name (by decide) (by decide))
    (s_one (s_expr (p_mut PySem.F.slot_list_append PySem.F.type_list_append mt_append mu_append (pv 2) (by decide) (p_aconsE (p_up (p_tup (p_aconsD (p_bin op_addA ok_addA (p_dat (p_fnB cr_lenD rfl ev.blt.len bt_len (p_aconsB (p_varB (pv 7)) p_anil))) (p_dat (p_fnB cr_lenD rfl ev.blt.len bt_len (p_aconsB (p_varB (pv 11)) p_anil)))) (p_aconsD (p_fnB (cr_min2D rfl hr.units) rfl ev.blt.min bt_min (p_aconsB (p_varB (pv 7)) (p_aconsB (p_varB (pv 11)) p_anil))) (p_aconsD (p_fnB (cr_max2D rfl hr.units) rfl ev.blt.max bt_max (p_aconsB (p_varB (pv 7)) (p_aconsB (p_varB (pv 11)) p_anil))) p_anil))) (len_cons (len_cons (len_cons len_nil))))) p_anilE)))))
    (s_one (s_put hr.units (pv 9) (by decide) (p_up (p_var (pv 10))) (p_up (p_bin op_addA ok_addA (p_dat (p_get2 hr.units (p_varB (pv 9)) (p_varB (pv 10)) (p_fre (p_lst p_anil len_nil)) ⟨rfl, rfl, rfl, rfl⟩)) (p_dat (p_fre (p_lst (p_aconsD (p_var (pv 7)) p_anil) (len_cons len_nil)))))))))))
    (s_one (s_weak (O1 := []) (s_ret' (p_if (p_cmpT (op_neB hr.units) ok_rB (p_varB (pv 2)) (p_dat (p_fre (p_lst p_anil len_nil))) rfl) (p_tup (p_aconsD p_str (p_aconsD (p_slc (p_dat (p_fnB (cr_minD rfl hr.units) rfl ev.blt.min bt_min (p_aconsB (p_varB (pv 2)) p_anil))) (p_toB (p_dat p_int)) p_noB) p_anil)) (len_cons (len_cons len_nil))) (p_tup (p_aconsD p_str p_anil) (len_cons len_nil))))))))))
abbrev s_law : Stmt := topS 39
abbrev N_law : List Str := ["script", "w", "turn", "tongues", "tongue", "some", "sign", "row", "words", "k", "j", "keyed", "place", "key", "parts", "name", "line", "at", "tables", "told", "text", "lots", "lot", "few", "every", "own", "one", "other", "both", "value", "good"]
theorem sc_law : FnScope N_law ["script"] (defScope s_law) := ⟨rfl, rfl, rfl, by decide +kernel, rfl, by decide +kernel, by decide +kernel⟩
def m_law : PL.Env → Option (Fl × PL.Env) :=
  (seqS
    (asgS 1 (dis2 (.str "draws") (.str "at") (fn k__law_draws (acons (var 0) (acons (cst (.int 400)) anil))) (cst (.int 0))))
    (seqS
    (forS (rng (acons (cst (.int 4)) anil)) (bN 2)
    (seqS
    (asgS 3 dnil)
    (seqS
    (forE (seqIE (slcE2 (up (lst (acons (cst (.str "norse")) (acons (cst (.str "greek")) (acons (cst (.str "irish")) anil))))) noBE (toBE (op2E addA (up (cst (.int 1))) (fnW 1 k__law_next (aconsE (up (cst (.int 3))) anilE)))))) (bN 4)
    (seqS
    (asgE 5 (op2E joinD (up (cst (.str ""))) (lcE (up (anyI (cst (.str "abcde")))) [6] (bN 6) (truE (op2E (bD gtB) (fnW 1 k__law_next (aconsE (up (cst (.int 3))) anilE)) (up (cst (.int 0))))) (up (var 6)))))
    (putS 3 (up (var 4)) (fnW 1 k__law_alphabet (aconsE (up (ifE (tru (op2 (bD neB) (var 5) (cst (.str "")))) (var 5) (cst (.str "a")))) anilE)))))
    (seqS
    (asgE 7 (fnW 1 k__law_pick (aconsE (up (lst (acons (fn tupleA (acons (var 3) anil)) (acons (fn tupleD (acons (fn sortedA (acons (var 3) anil)) anil)) (acons (op1 revD (fn tupleA (acons (var 3) anil))) anil))))) anilE)))
    (seqS
    (asgS 8 (lst anil))
    (seqS
    (forE (rngE (aconsE (fnW 1 k__law_next (aconsE (up (cst (.int 8))) anilE)) anilE)) (bN 9)
    (seqS
    (asgE 4 (fnW 1 k__law_pick (aconsE (up (fn listA (acons (var 3) anil))) anilE)))
    (exprS (mutL 8 appendD (aconsE (tupE (aconsE (up (var 4)) (aconsE (op2E joinD (up (cst (.str ""))) (lcE (rngE (aconsE (op2E addA (up (cst (.int 1))) (fnW 1 k__law_next (aconsE (up (cst (.int 3))) anilE))) anilE)) [10] (bN 10) yesTE (fnW 1 k__law_pick (aconsE (up (op2 ixA (var 3) (var 4))) anilE)))) anilE))) anilE)))))
    (seqS
    (asgS 8 (fn tupleA (acons (var 8) anil)))
    (seqS
    (asgS 11 (fn sortedA (acons (lc (rng (acons (fn lenD (acons (var 8) anil)) anil)) [9] (bN 9) yesT (tup (acons (op2 indexB (var 7) (op2 ixA (op2 ixA (var 8) (var 9)) (cst (.int 0)))) (acons (fn k__law_key (acons (op2 ixA (var 3) (op2 ixA (op2 ixA (var 8) (var 9)) (cst (.int 0)))) (acons (op2 ixA (op2 ixA (var 8) (var 9)) (cst (.int 1))) anil))) (acons (var 9) anil))))) anil)))
    (seqS
    (ifS (notT (tru (fn (k__law_same 12) (acons (fn k_by_tongues (acons (fn dictD (acons (var 3) anil)) (acons (var 7) (acons (var 8) anil)))) (acons (fn tupleD (acons (lc (anyI (var 11)) [12, 13, 9] (bT [12, 13, 9]) yesT (op2 ixA (var 8) (var 9))) anil)) anil)))))
    (retS (cst (.bool false)))
    nilS)
    (seqS
    (asgS 14 (lst anil))
    (seqS
    (forS (anyI (var 8)) (bT [4, 15])
    (exprS (mutL 14 appendD (aconsE (up (lc (anyI (fn k__law_key (acons (op2 ixA (var 3) (var 4)) (acons (var 15) anil)))) [12] (bN 12) yesT (fn k__law_fraction (acons (var 12) (acons (fn lenD (acons (op2 ixA (var 3) (var 4)) anil)) anil))))) anilE))))
    (seqS
    (asgS 16 (lst anil))
    (seqS
    (forS (rng (acons (fn lenD (acons (var 8) anil)) anil)) (bN 9)
    (seqS
    (asgS 17 (fn lenD (acons (var 16) anil)))
    (seqS
    (whileF (andT (tru (op2 (bD gtB) (var 17) (cst (.int 0)))) (orT (tru (fn k__law_ahead (acons (op2 ixA (var 14) (var 9)) (acons (op2 ixA (var 14) (op2 ixA (var 16) (op2 subD (var 17) (cst (.int 1))))) anil)))) (andT (tru (op2 (bD eqB) (op2 ixA (var 14) (var 9)) (op2 ixA (var 14) (op2 ixA (var 16) (op2 subD (var 17) (cst (.int 1))))))) (tru (op2 (bD ltB) (op2 ixA (op2 ixA (var 8) (var 9)) (cst (.int 0))) (op2 ixA (op2 ixA (var 8) (op2 ixA (var 16) (op2 subD (var 17) (cst (.int 1))))) (cst (.int 0))))))))
    (augN 17 (iopD fun i j => i - j) (up (cst (.int 1)))) 1000)
    (asgS 16 (op2 addA (op2 addA (slc (var 16) noB (toB (var 17))) (lst (acons (var 9) anil))) (slc (var 16) (toB (var 17)) noB))))))
    (seqS
    (ifS (notT (tru (fn (k__law_same 12) (acons (fn k_all_in_one (acons (fn dictD (acons (var 3) anil)) (acons (var 8) anil))) (acons (fn tupleD (acons (lc (anyI (var 16)) [9] (bN 9) yesT (op2 ixA (var 8) (var 9))) anil)) anil)))))
    (retS (cst (.bool false)))
    nilS)
    (seqS
    (asgS 18 dnil)
    (seqS
    (forS (anyI (var 3)) (bN 4)
    (putS 18 (up (var 4)) (fnE dictD (aconsE (lcE (up (anyI (cst (.str "abcde")))) [6] (bN 6) (truE (op2E (bD eqB) (fnW 1 k__law_next (aconsE (up (cst (.int 3))) anilE)) (up (cst (.int 0))))) (tupE (aconsE (up (var 6)) (aconsE (fnW 1 k__law_pick (aconsE (up (lst (acons (cst (.str "a")) (acons (cst (.str "ae")) (acons (cst (.str "ch")) (acons (cst (.str "b")) (acons (cst (.str "c")) anil))))))) anilE)) anilE)))) anilE))))
    (seqS
    (asgS 19 (lc (anyI (var 8)) [4, 15] (bT [4, 15]) yesT (fn k__law_written (acons (op2 ixA (var 18) (var 4)) (acons (var 15) anil)))))
    (seqS
    (forS (rng (acons (fn lenD (acons (var 8) anil)) anil)) (bN 9)
    (ifS (notT (tru (fn (k__law_same 12) (acons (fn k_written_in (acons (fn dictD (acons (op2 ixA (var 18) (op2 ixA (op2 ixA (var 8) (var 9)) (cst (.int 0)))) anil)) (acons (op2 ixA (op2 ixA (var 8) (var 9)) (cst (.int 1))) anil))) (acons (op2 ixA (var 19) (var 9)) anil)))))
    (retS (cst (.bool false)))
    nilS))
    (seqS
    (asgS 11 (fn sortedA (acons (lc (rng (acons (fn lenD (acons (var 8) anil)) anil)) [9] (bN 9) yesT (tup (acons (op2 ixA (var 19) (var 9)) (acons (op2 ixA (op2 ixA (var 8) (var 9)) (cst (.int 0))) (acons (op2 ixA (op2 ixA (var 8) (var 9)) (cst (.int 1))) anil))))) anil)))
    (seqS
    (ifS (notT (tru (fn (k__law_same 12) (acons (fn k_by_writing (acons (fn dictD (acons (var 18) anil)) (acons (var 8) anil))) (acons (fn tupleD (acons (lc (anyI (var 11)) [20, 4, 15] (bT [20, 4, 15]) yesT (tup (acons (var 4) (acons (var 15) anil)))) anil)) anil)))))
    (retS (cst (.bool false)))
    nilS)
    (seqS
    (asgS 21 (lc (anyI (op1 sortSetD (var 19))) [20] (bN 20) yesT (fn tupleD (acons (lc (rng (acons (fn lenD (acons (var 19) anil)) anil)) [9] (bN 9) (tru (op2 (bD eqB) (op2 ixA (var 19) (var 9)) (var 20))) (var 9)) anil))))
    (seqS
    (ifS (notT (tru (fn (k__law_same 12) (acons (fn k_clashes_of (acons (fn dictD (acons (var 18) anil)) (acons (var 8) anil))) (acons (fn tupleD (acons (fn sortedA (acons (lc (anyI (var 21)) [22] (bN 22) (tru (op2 (bD gtB) (fn lenD (acons (var 22) anil)) (cst (.int 1)))) (var 22)) anil)) anil)) anil)))))
    (retS (cst (.bool false)))
    nilS)
    (seqS
    (parS [4, 23] (aconsE (fnW 1 k__law_pick (aconsE (up (fn listA (acons (var 3) anil))) anilE)) (aconsE (slcE2 (up (tup (acons (cst (.str "a")) (acons (cst (.str "b")) (acons (cst (.str "c")) anil))))) noBE (toBE (op2E addA (up (cst (.int 1))) (fnW 1 k__law_next (aconsE (up (cst (.int 3))) anilE))))) anilE)))
    (seqS
    (ifS (notT (tru (fn (k__law_same 12) (acons (fn k_is_clean (acons (fn dictD (acons (op2 ixA (var 18) (var 4)) anil)) (acons (var 23) anil))) (acons (fn k__law_clean (acons (op2 ixA (var 18) (var 4)) (acons (var 23) anil))) anil)))))
    (retS (cst (.bool false)))
    nilS)
    (seqS
    (asgS 24 (lc (anyI (var 3)) [25] (bN 25) yesT (op2 ixA (var 3) (var 25))))
    (seqS
    (ifS (notT (tru (fn (k__law_same 12) (acons (fn k_shared_letters (acons (fn dictD (acons (var 3) anil)) anil)) (acons (fn tupleD (acons (lc (anyI (cst (.str "abcde"))) [6] (bN 6) (tru (op2 (bD eqB) (lc (anyI (var 24)) [25] (bN 25) (tru (op2 (bD (notB inB)) (var 6) (var 25))) (var 25)) (lst anil))) (var 6)) anil)) anil)))))
    (retS (cst (.bool false)))
    nilS)
    (seqS
    (parS [26, 27] (aconsE (fnW 1 k__law_pick (aconsE (up (fn listA (acons (var 3) anil))) anilE)) (aconsE (fnW 1 k__law_pick (aconsE (up (fn listA (acons (var 3) anil))) anilE)) anilE)))
    (seqS
    (asgS 28 (lc (anyI (lst (acons (var 26) (acons (var 27) anil)))) [25] (bN 25) yesT (lc (anyI (op2 ixA (var 3) (var 25))) [6] (bN 6) (andT (tru (op2 (bD inB) (var 6) (op2 ixA (var 3) (var 26)))) (tru (op2 (bD inB) (var 6) (op2 ixA (var 3) (var 27))))) (var 6))))
    (seqS
    (ifS (notT (tru (fn k__law_says (acons (fn k_order_kept (acons (fn dictD (acons (var 3) anil)) (acons (var 26) (acons (var 27) anil)))) (acons (op2 (bD eqB) (op2 ixA (var 28) (cst (.int 0))) (op2 ixA (var 28) (cst (.int 1)))) anil)))))
    (retS (cst (.bool false)))
    nilS)
    (seqS
    (forS (anyI (lst (acons (tup (acons (var 8) (acons (cst (.bool true)) anil))) (acons (tup (acons (op2 addA (var 8) (tup (acons (tup (acons (cst (.str "norse")) (acons (cst (.str "")) anil))) anil))) (acons (cst (.bool false)) anil))) (acons (tup (acons (op2 addA (var 8) (tup (acons (tup (acons (cst (.str "norse")) (acons (cst (.str "z")) anil))) anil))) (acons (cst (.bool false)) anil))) (acons (tup (acons (op2 addA (var 8) (tup (acons (tup (acons (cst (.str "Norse")) (acons (cst (.str "a")) anil))) anil))) (acons (cst (.bool false)) anil))) (acons (tup (acons (fn listA (acons (var 8) anil)) (acons (cst (.bool false)) anil))) anil))))))) (bT [29, 30])
    (ifS (notT (tru (fn k__law_says (acons (fn k_are_words (acons (fn dictD (acons (var 3) anil)) (acons (var 29) anil))) (acons (var 30) anil)))))
    (retS (cst (.bool false)))
    nilS))
    (forS (anyI (lst (acons (cst .none) (acons (tup (acons (tup (acons (cst (.str "norse")) anil)) anil)) (acons (tup (acons (tup (acons (cst (.str "norse")) (acons (cst (.int 1)) anil))) anil)) (acons (tup (acons (lst (acons (cst (.str "norse")) (acons (cst (.str "a")) anil))) anil)) (acons (tup (acons (tup (acons (cst (.int 1)) (acons (cst (.str "a")) anil))) anil)) anil))))))) (bN 29)
    (ifS (tru (op2 (bD (notB isB)) (fn k_are_words (acons (fn dictD (acons (var 3) anil)) (acons (var 29) anil))) (cst (.bool false))))
    (retS (cst (.bool false)))
    nilS))))))))))))))))))))))))))))))))
    (retS (cst (.bool true)))))
def k_law : List D → Option D := bodyD 31 m_law
theorem d_law (ev : Ev K mg) {fa : Addr} {fd : FuncData} (F : Fun K "law" "law" s_law fa fd) : FnOk P w K mg base CX0 14 fa fd ["script"] (SpP K 1 k_law) :=
  d_top (lv := 13) (O' := []) F sc_law rfl fun fa cdv A outer s H E hr =>
    (s_cons
    (s_own (ps_set (i := 1) sc_law.nd rfl (.inr rfl) (p_dis2 (p_call (d__law_draws ev) (hr.mono (by omega)) rfl (p_aconsD (p_var (pv 0)) (p_aconsD p_int p_anil)) (hlen := (len_cons (len_cons len_nil)))) p_int)) (fun _ _ _ h => h))
    (s_cons
    (s_for (vs := [2]) PassesOwn.never rfl (i_rng1 (per := true) rfl ev.blt.range (p_aconsB (p_dat p_int) p_anil) (len_cons len_nil)) (pg_name (i := 2) sc_law.nd rfl (by first | exact Or.inl rfl | exact Or.inr rfl)) (bnd_name (by decide) (by decide))
    (ss_post (O2 := [1]) (s_cons
    (s_own (ps_set (i := 3) sc_law.nd rfl (.inr rfl) p_dnil) (fun _ _ _ h => h))
    (s_cons
    (s_forE (vs := [4]) PassesOwn.never rfl (i_seqE (p_slcE2 (p_up (p_fre (p_lst (p_aconsD p_str (p_aconsD p_str (p_aconsD p_str p_anil))) (len_cons (len_cons (len_cons len_nil)))))) p_noBE (p_toBE (p_binE op_addA ok_addA (p_up p_int) (p_callW (d__law_next ev) (hr.mono (by omega)) rfl (pv 1) (by decide) (p_aconsE (p_up p_int) p_anilE) (len_consE len_nilE)))))) (pg_name (i := 4) sc_law.nd rfl (by first | exact Or.inl rfl | exact Or.inr rfl)) (bnd_name (by decide) (by decide))
    (s_cons
    (s_asgE (ps_set (i := 5) sc_law.nd rfl (.inl rfl) (p_joinE (p_up p_str) (p_lcE (own := [("sign", 6)]) rfl sc_law.nd (blkOk_by (N := N_law) (sc := defScope s_law) (by first | decide +kernel | rfl)) (i_upE (i_any p_str)) (fun _ _ _ _ _ => (pg_name (i := 6) sc_law.nd rfl (by first | exact Or.inl rfl | exact Or.inr rfl))) (bnd_name (by decide) (by decide)) (fun _ _ _ _ _ => (pts_one (p_cmpTE (op_gtB hr.units) ok_rB (p_callW (d__law_next ev) (hr.mono (by omega)) rfl (pv 1) (by decide) (p_aconsE (p_up p_int) p_anilE) (len_consE len_nilE)) (p_up p_int) rfl))) (fun _ _ _ _ _ => (p_up (p_var (pv 6))))))) (fun _ _ _ h => h))
    (s_one (s_put hr.units (pv 3) (by decide) (p_up (p_var (pv 4))) (p_callW (d__law_alphabet ev) (hr.mono (by omega)) rfl (pv 1) (by decide) (p_aconsE (p_up (p_if (p_cmpT (op_neB hr.units) ok_rB (p_varB (pv 5)) (p_dat p_str) rfl) (p_var (pv 5)) p_str)) p_anilE) (len_consE len_nilE))))))
    (s_cons
    (s_asgE (ps_set (i := 7) sc_law.nd rfl (.inr rfl) (p_callW (d__law_pick ev) (hr.mono (by omega)) rfl (pv 1) (by decide) (p_aconsE (p_up (p_fre (p_lst (p_aconsD (p_fnT (cr_tupleA rfl) rfl ev.blt.tuple bt_tuple (p_aconsB (p_varB (pv 3)) p_anil)) (p_aconsD (p_fnT cr_tupleD rfl ev.blt.tuple bt_tuple (p_aconsB (p_dat (p_fre (p_fnB (cr_sortedA rfl hr.units) rfl ev.blt.sorted bt_sorted (p_aconsB (p_varB (pv 3)) p_anil)))) p_anil)) (p_aconsD (p_rev (p_dat (p_fnT (cr_tupleA rfl) rfl ev.blt.tuple bt_tuple (p_aconsB (p_varB (pv 3)) p_anil)))) p_anil))) (len_cons (len_cons (len_cons len_nil)))))) p_anilE) (len_consE len_nilE))) (fun _ _ _ h => h))
    (s_cons
    (s_own (ps_set (i := 8) sc_law.nd rfl (.inr rfl) (p_lst p_anil len_nil)) (fun _ _ _ h => h))
    (s_cons
    (s_forE (vs := [9]) PassesOwn.never rfl (i_rng1E rfl ev.blt.range (p_aconsE (p_callW (d__law_next ev) (hr.mono (by omega)) rfl (pv 1) (by decide) (p_aconsE (p_up p_int) p_anilE) (len_consE len_nilE)) p_anilE) (len_consE len_nilE)) (pg_name (i := 9) sc_law.nd rfl (by first | exact Or.inl rfl | exact Or.inr rfl)) (bnd_name (by decide) (by decide))
    (s_cons
    (s_asgE (ps_set (i := 4) sc_law.nd rfl (.inr rfl) (p_callW (d__law_pick ev) (hr.mono (by omega)) rfl (pv 1) (by decide) (p_aconsE (p_up (p_fre (p_fnT (cr_listA rfl) rfl ev.blt.list bt_list (p_aconsB (p_varB (pv 3)) p_anil)))) p_anilE) (len_consE len_nilE))) (fun _ _ _ h => h))
    (s_one (s_expr (p_mut PySem.F.slot_list_append PySem.F.type_list_append mt_append mu_append (pv 8) (by decide) (p_aconsE (p_tupE (p_aconsE (p_up (p_var (pv 4))) (p_aconsE (p_joinE (p_up p_str) (p_lcE (own := [("j", 10)]) rfl sc_law.nd (blkOk_by (N := N_law) (sc := defScope s_law) (by first | decide +kernel | rfl)) (i_rng1E rfl ev.blt.range (p_aconsE (p_binE op_addA ok_addA (p_up p_int) (p_callW (d__law_next ev) (hr.mono (by omega)) rfl (pv 1) (by decide) (p_aconsE (p_up p_int) p_anilE) (len_consE len_nilE))) p_anilE) (len_consE len_nilE)) (fun _ _ _ _ _ => (pg_name (i := 10) sc_law.nd rfl (by first | exact Or.inl rfl | exact Or.inr rfl))) (bnd_name (by decide) (by decide)) (fun _ _ _ _ _ => pts0E) (fun _ _ _ _ _ => (p_callW (d__law_pick ev) (hr.mono (by omega)) rfl (pv 1) (by decide) (p_aconsE (p_up (p_ix (ix_A hr.units) ok_ixA (p_varB (pv 3)) (p_varB (pv 4)))) p_anilE) (len_consE len_nilE))))) p_anilE)) (len_consE (len_consE len_nilE))) p_anilE))))))
    (s_cons
    (s_weak (O1 := [3, 1]) (s_asg (ps_set (i := 8) sc_law.nd rfl (.inr rfl) (p_fnT (cr_tupleA rfl) rfl ev.blt.tuple bt_tuple (p_aconsB (p_varB (pv 8)) p_anil))) (fun _ _ _ h => h)))
    (s_cons
    (s_asg (ps_set (i := 11) sc_law.nd rfl (.inl rfl) (p_fre (p_fnB (cr_sortedA rfl hr.units) rfl ev.blt.sorted bt_sorted (p_aconsB (p_dat (p_fre (p_lc (own := [("k", 9)]) rfl sc_law.nd (blkOk_by (N := N_law) (sc := defScope s_law) (by first | decide +kernel | rfl)) (i_rng1 (per := true) rfl ev.blt.range (p_aconsB (p_dat (p_fnB cr_lenD rfl ev.blt.len bt_len (p_aconsB (p_varB (pv 8)) p_anil))) p_anil) (len_cons len_nil)) (fun _ _ _ _ _ => (pg_name (i := 9) sc_law.nd rfl (by first | exact Or.inl rfl | exact Or.inr rfl))) (bnd_name (by decide) (by decide)) (fun _ _ _ _ _ => pts0) (fun _ _ _ _ _ => (p_tup (p_aconsD (p_indexB hr.units (p_varB (pv 7)) (p_dat (p_ix (ix_A hr.units) ok_ixA (p_dat (p_ix (ix_A hr.units) ok_ixA (p_varB (pv 8)) (p_varB (pv 9)))) (p_dat p_int)))) (p_aconsD (p_call (d__law_key ev) (hr.mono (by omega)) rfl (p_aconsD (p_ix (ix_A hr.units) ok_ixA (p_varB (pv 3)) (p_dat (p_ix (ix_A hr.units) ok_ixA (p_dat (p_ix (ix_A hr.units) ok_ixA (p_varB (pv 8)) (p_varB (pv 9)))) (p_dat p_int)))) (p_aconsD (p_ix (ix_A hr.units) ok_ixA (p_dat (p_ix (ix_A hr.units) ok_ixA (p_varB (pv 8)) (p_varB (pv 9)))) (p_dat p_int)) p_anil)) (hlen := (len_cons (len_cons len_nil)))) (p_aconsD (p_var (pv 9)) p_anil))) (len_cons (len_cons (len_cons len_nil)))))))) p_anil)))) (fun _ _ _ h => h))
    (s_cons
    (s_if (p_not (p_valT (p_dat (p_call (d__law_same ev 12) (hr.mono (by omega)) rfl (p_aconsD (p_call (d_by_tongues ev) (hr.mono (by omega)) rfl (p_aconsD (p_fre (p_fnT (cr_dictD rfl) rfl ev.blt.dict bt_dict (p_aconsB (p_varB (pv 3)) p_anil))) (p_aconsD (p_var (pv 7)) (p_aconsD (p_var (pv 8)) p_anil))) (hlen := (len_cons (len_cons (len_cons len_nil))))) (p_aconsD (p_fnT cr_tupleD rfl ev.blt.tuple bt_tuple (p_aconsB (p_dat (p_fre (p_lc (own := [("place", 12), ("key", 13), ("k", 9)]) rfl sc_law.nd (blkOk_by (N := N_law) (sc := defScope s_law) (by first | decide +kernel | rfl)) (i_any (p_var (pv 11))) (fun _ _ _ _ _ => (pg_tup rfl (pgs_cons (pg_name (i := 12) sc_law.nd rfl (by first | exact Or.inl rfl | exact Or.inr rfl)) (pgs_cons (pg_name (i := 13) sc_law.nd rfl (by first | exact Or.inl rfl | exact Or.inr rfl)) (pgs_cons (pg_name (i := 9) sc_law.nd rfl (by first | exact Or.inl rfl | exact Or.inr rfl)) pgs_nil))))) (bnd_tup (js := [12, 13, 9]) (.cons (.cons (.cons .nil))) rfl (by decide)) (fun _ _ _ _ _ => pts0) (fun _ _ _ _ _ => (p_ix (ix_A hr.units) ok_ixA (p_varB (pv 8)) (p_varB (pv 9))))))) p_anil)) p_anil)) (hlen := (len_cons (len_cons len_nil)))))))
    (s_one (s_weak (O1 := []) (s_ret' p_bl)))
    s_nil)
    (s_cons
    (s_own (ps_set (i := 14) sc_law.nd rfl (.inl rfl) (p_lst p_anil len_nil)) (fun _ _ _ h => h))
    (s_cons
    (s_for (vs := [4, 15]) PassesOwn.never rfl (i_any (p_var (pv 8))) (pg_tup rfl (pgs_cons (pg_name (i := 4) sc_law.nd rfl (by first | exact Or.inl rfl | exact Or.inr rfl)) (pgs_cons (pg_name (i := 15) sc_law.nd rfl (by first | exact Or.inl rfl | exact Or.inr rfl)) pgs_nil))) (bnd_tup (js := [4, 15]) (.cons (.cons .nil)) rfl (by decide))
    (s_one (s_expr (p_mut PySem.F.slot_list_append PySem.F.type_list_append mt_append mu_append (pv 14) (by decide) (p_aconsE (p_up (p_fre (p_lc (own := [("place", 12)]) rfl sc_law.nd (blkOk_by (N := N_law) (sc := defScope s_law) (by first | decide +kernel | rfl)) (i_any (p_call (d__law_key ev) (hr.mono (by omega)) rfl (p_aconsD (p_ix (ix_A hr.units) ok_ixA (p_varB (pv 3)) (p_varB (pv 4))) (p_aconsD (p_var (pv 15)) p_anil)) (hlen := (len_cons (len_cons len_nil))))) (fun _ _ _ _ _ => (pg_name (i := 12) sc_law.nd rfl (by first | exact Or.inl rfl | exact Or.inr rfl))) (bnd_name (by decide) (by decide)) (fun _ _ _ _ _ => pts0) (fun _ _ _ _ _ => (p_call (d__law_fraction ev) (hr.mono (by omega)) rfl (p_aconsD (p_var (pv 12)) (p_aconsD (p_fnB cr_lenD rfl ev.blt.len bt_len (p_aconsB (p_dat (p_ix (ix_A hr.units) ok_ixA (p_varB (pv 3)) (p_varB (pv 4)))) p_anil)) p_anil)) (hlen := (len_cons (len_cons len_nil)))))))) p_anilE)))))
    (s_cons
    (s_asg (ps_set (i := 16) sc_law.nd rfl (.inl rfl) (p_fre (p_lst p_anil len_nil))) (fun _ _ _ h => h))
    (s_cons
    (s_for (vs := [9]) PassesOwn.never rfl (i_rng1 (per := true) rfl ev.blt.range (p_aconsB (p_dat (p_fnB cr_lenD rfl ev.blt.len bt_len (p_aconsB (p_varB (pv 8)) p_anil))) p_anil) (len_cons len_nil)) (pg_name (i := 9) sc_law.nd rfl (by first | exact Or.inl rfl | exact Or.inr rfl)) (bnd_name (by decide) (by decide))
    (s_cons
    (s_asg (ps_set (i := 17) sc_law.nd rfl (.inl rfl) (p_fnB cr_lenD rfl ev.blt.len bt_len (p_aconsB (p_varB (pv 16)) p_anil))) (fun _ _ _ h => h))
    (s_cons
    (s_while (N := 1000) PassesOwn.never (L2.PW.pt (p_and (p_cmpT (op_gtB hr.units) ok_rB (p_varB (pv 17)) (p_dat p_int) rfl) (p_and1 (L2.PW.pt (p_or (p_valT (p_dat (p_call (d__law_ahead ev) (hr.mono (by omega)) rfl (p_aconsD (p_ix (ix_A hr.units) ok_ixA (p_varB (pv 14)) (p_varB (pv 9))) (p_aconsD (p_ix (ix_A hr.units) ok_ixA (p_varB (pv 14)) (p_dat (p_ix (ix_A hr.units) ok_ixA (p_varB (pv 16)) (p_dat (p_bin op_sub ok_sub (p_varB (pv 17)) (p_dat p_int)))))) p_anil)) (hlen := (len_cons (len_cons len_nil)))))) (p_or1 (L2.PW.pt (p_and (p_cmpT (op_eqB hr.units) ok_rB (p_dat (p_ix (ix_A hr.units) ok_ixA (p_varB (pv 14)) (p_varB (pv 9)))) (p_dat (p_ix (ix_A hr.units) ok_ixA (p_varB (pv 14)) (p_dat (p_ix (ix_A hr.units) ok_ixA (p_varB (pv 16)) (p_dat (p_bin op_sub ok_sub (p_varB (pv 17)) (p_dat p_int))))))) rfl) (p_and1 (p_cmpT (op_ltB hr.units) ok_rB (p_dat (p_ix (ix_A hr.units) ok_ixA (p_dat (p_ix (ix_A hr.units) ok_ixA (p_varB (pv 8)) (p_varB (pv 9)))) (p_dat p_int))) (p_dat (p_ix (ix_A hr.units) ok_ixA (p_dat (p_ix (ix_A hr.units) ok_ixA (p_varB (pv 8)) (p_dat (p_ix (ix_A hr.units) ok_ixA (p_varB (pv 16)) (p_dat (p_bin op_sub ok_sub (p_varB (pv 17)) (p_dat p_int))))))) (p_dat p_int))) rfl))))))))))
    (s_one (s_aug (j := 17) sc_law.nd rfl (.inl rfl) (p_up p_int) ip_sub)))
    (s_one (s_asg (ps_set (i := 16) sc_law.nd rfl (.inl rfl) (p_bin op_addA ok_addA (p_dat (p_bin op_addA ok_addA (p_dat (p_slc (p_varB (pv 16)) p_noB (p_toB (p_varB (pv 17))))) (p_dat (p_fre (p_lst (p_aconsD (p_var (pv 9)) p_anil) (len_cons len_nil)))))) (p_dat (p_slc (p_varB (pv 16)) (p_toB (p_varB (pv 17))) p_noB)))) (fun _ _ _ h => h))))))
    (s_cons
    (s_if (p_not (p_valT (p_dat (p_call (d__law_same ev 12) (hr.mono (by omega)) rfl (p_aconsD (p_call (d_all_in_one ev) (hr.mono (by omega)) rfl (p_aconsD (p_fre (p_fnT (cr_dictD rfl) rfl ev.blt.dict bt_dict (p_aconsB (p_varB (pv 3)) p_anil))) (p_aconsD (p_var (pv 8)) p_anil)) (hlen := (len_cons (len_cons len_nil)))) (p_aconsD (p_fnT cr_tupleD rfl ev.blt.tuple bt_tuple (p_aconsB (p_dat (p_fre (p_lc (own := [("k", 9)]) rfl sc_law.nd (blkOk_by (N := N_law) (sc := defScope s_law) (by first | decide +kernel | rfl)) (i_any (p_var (pv 16))) (fun _ _ _ _ _ => (pg_name (i := 9) sc_law.nd rfl (by first | exact Or.inl rfl | exact Or.inr rfl))) (bnd_name (by decide) (by decide)) (fun _ _ _ _ _ => pts0) (fun _ _ _ _ _ => (p_ix (ix_A hr.units) ok_ixA (p_varB (pv 8)) (p_varB (pv 9))))))) p_anil)) p_anil)) (hlen := (len_cons (len_cons len_nil)))))))
    (s_one (s_weak (O1 := []) (s_ret' p_bl)))
    s_nil)
    (s_cons
    (s_own (ps_set (i := 18) sc_law.nd rfl (.inr rfl) p_dnil) (fun _ _ _ h => h))
    (s_cons
    (s_weak (O1 := [18, 14, 1]) (s_for (vs := [4]) PassesOwn.never rfl (i_any (p_var (pv 3))) (pg_name (i := 4) sc_law.nd rfl (by first | exact Or.inl rfl | exact Or.inr rfl)) (bnd_name (by decide) (by decide))
    (s_one (s_put hr.units (pv 18) (by decide) (p_up (p_var (pv 4))) (p_fnTF (cr_dictD rfl) rfl ev.blt.dict bt_dict (p_aconsE (p_lcE (own := [("sign", 6)]) rfl sc_law.nd (blkOk_by (N := N_law) (sc := defScope s_law) (by first | decide +kernel | rfl)) (i_upE (i_any p_str)) (fun _ _ _ _ _ => (pg_name (i := 6) sc_law.nd rfl (by first | exact Or.inl rfl | exact Or.inr rfl))) (bnd_name (by decide) (by decide)) (fun _ _ _ _ _ => (pts_one (p_cmpTE (op_eqB hr.units) ok_rB (p_callW (d__law_next ev) (hr.mono (by omega)) rfl (pv 1) (by decide) (p_aconsE (p_up p_int) p_anilE) (len_consE len_nilE)) (p_up p_int) rfl))) (fun _ _ _ _ _ => (p_tupE (p_aconsE (p_up (p_var (pv 6))) (p_aconsE (p_callW (d__law_pick ev) (hr.mono (by omega)) rfl (pv 1) (by decide) (p_aconsE (p_up (p_fre (p_lst (p_aconsD p_str (p_aconsD p_str (p_aconsD p_str (p_aconsD p_str (p_aconsD p_str p_anil))))) (len_cons (len_cons (len_cons (len_cons (len_cons len_nil)))))))) p_anilE) (len_consE len_nilE)) p_anilE)) (len_consE (len_consE len_nilE))))) p_anilE))))))
    (s_cons
    (s_asg (ps_set (i := 19) sc_law.nd rfl (.inr rfl) (p_fre (p_lc (own := [("tongue", 4), ("name", 15)]) rfl sc_law.nd (blkOk_by (N := N_law) (sc := defScope s_law) (by first | decide +kernel | rfl)) (i_any (p_var (pv 8))) (fun _ _ _ _ _ => (pg_tup rfl (pgs_cons (pg_name (i := 4) sc_law.nd rfl (by first | exact Or.inl rfl | exact Or.inr rfl)) (pgs_cons (pg_name (i := 15) sc_law.nd rfl (by first | exact Or.inl rfl | exact Or.inr rfl)) pgs_nil)))) (bnd_tup (js := [4, 15]) (.cons (.cons .nil)) rfl (by decide)) (fun _ _ _ _ _ => pts0) (fun _ _ _ _ _ => (p_call (d__law_written ev) (hr.mono (by omega)) rfl (p_aconsD (p_ix (ix_A hr.units) ok_ixA (p_varB (pv 18)) (p_varB (pv 4))) (p_aconsD (p_var (pv 15)) p_anil)) (hlen := (len_cons (len_cons len_nil)))))))) (fun _ _ _ h => h))
    (s_cons
    (s_for (vs := [9]) PassesOwn.never rfl (i_rng1 (per := true) rfl ev.blt.range (p_aconsB (p_dat (p_fnB cr_lenD rfl ev.blt.len bt_len (p_aconsB (p_varB (pv 8)) p_anil))) p_anil) (len_cons len_nil)) (pg_name (i := 9) sc_law.nd rfl (by first | exact Or.inl rfl | exact Or.inr rfl)) (bnd_name (by decide) (by decide))
    (s_one (s_if (p_not (p_valT (p_dat (p_call (d__law_same ev 12) (hr.mono (by omega)) rfl (p_aconsD (p_call (d_written_in ev) (hr.mono (by omega)) rfl (p_aconsD (p_fre (p_fnT (cr_dictD rfl) rfl ev.blt.dict bt_dict (p_aconsB (p_dat (p_ix (ix_A hr.units) ok_ixA (p_varB (pv 18)) (p_dat (p_ix (ix_A hr.units) ok_ixA (p_dat (p_ix (ix_A hr.units) ok_ixA (p_varB (pv 8)) (p_varB (pv 9)))) (p_dat p_int))))) p_anil))) (p_aconsD (p_ix (ix_A hr.units) ok_ixA (p_dat (p_ix (ix_A hr.units) ok_ixA (p_varB (pv 8)) (p_varB (pv 9)))) (p_dat p_int)) p_anil)) (hlen := (len_cons (len_cons len_nil)))) (p_aconsD (p_ix (ix_A hr.units) ok_ixA (p_varB (pv 19)) (p_varB (pv 9))) p_anil)) (hlen := (len_cons (len_cons len_nil)))))))
    (s_one (s_weak (O1 := []) (s_ret' p_bl)))
    s_nil)))
    (s_cons
    (s_asg (ps_set (i := 11) sc_law.nd rfl (.inl rfl) (p_fre (p_fnB (cr_sortedA rfl hr.units) rfl ev.blt.sorted bt_sorted (p_aconsB (p_dat (p_fre (p_lc (own := [("k", 9)]) rfl sc_law.nd (blkOk_by (N := N_law) (sc := defScope s_law) (by first | decide +kernel | rfl)) (i_rng1 (per := true) rfl ev.blt.range (p_aconsB (p_dat (p_fnB cr_lenD rfl ev.blt.len bt_len (p_aconsB (p_varB (pv 8)) p_anil))) p_anil) (len_cons len_nil)) (fun _ _ _ _ _ => (pg_name (i := 9) sc_law.nd rfl (by first | exact Or.inl rfl | exact Or.inr rfl))) (bnd_name (by decide) (by decide)) (fun _ _ _ _ _ => pts0) (fun _ _ _ _ _ => (p_tup (p_aconsD (p_ix (ix_A hr.units) ok_ixA (p_varB (pv 19)) (p_varB (pv 9))) (p_aconsD (p_ix (ix_A hr.units) ok_ixA (p_dat (p_ix (ix_A hr.units) ok_ixA (p_varB (pv 8)) (p_varB (pv 9)))) (p_dat p_int)) (p_aconsD (p_ix (ix_A hr.units) ok_ixA (p_dat (p_ix (ix_A hr.units) ok_ixA (p_varB (pv 8)) (p_varB (pv 9)))) (p_dat p_int)) p_anil))) (len_cons (len_cons (len_cons len_nil)))))))) p_anil)))) (fun _ _ _ h => h))
    (s_cons
    (s_if (p_not (p_valT (p_dat (p_call (d__law_same ev 12) (hr.mono (by omega)) rfl (p_aconsD (p_call (d_by_writing ev) (hr.mono (by omega)) rfl (p_aconsD (p_fre (p_fnT (cr_dictD rfl) rfl ev.blt.dict bt_dict (p_aconsB (p_varB (pv 18)) p_anil))) (p_aconsD (p_var (pv 8)) p_anil)) (hlen := (len_cons (len_cons len_nil)))) (p_aconsD (p_fnT cr_tupleD rfl ev.blt.tuple bt_tuple (p_aconsB (p_dat (p_fre (p_lc (own := [("text", 20), ("tongue", 4), ("name", 15)]) rfl sc_law.nd (blkOk_by (N := N_law) (sc := defScope s_law) (by first | decide +kernel | rfl)) (i_any (p_var (pv 11))) (fun _ _ _ _ _ => (pg_tup rfl (pgs_cons (pg_name (i := 20) sc_law.nd rfl (by first | exact Or.inl rfl | exact Or.inr rfl)) (pgs_cons (pg_name (i := 4) sc_law.nd rfl (by first | exact Or.inl rfl | exact Or.inr rfl)) (pgs_cons (pg_name (i := 15) sc_law.nd rfl (by first | exact Or.inl rfl | exact Or.inr rfl)) pgs_nil))))) (bnd_tup (js := [20, 4, 15]) (.cons (.cons (.cons .nil))) rfl (by decide)) (fun _ _ _ _ _ => pts0) (fun _ _ _ _ _ => (p_tup (p_aconsD (p_var (pv 4)) (p_aconsD (p_var (pv 15)) p_anil)) (len_cons (len_cons len_nil))))))) p_anil)) p_anil)) (hlen := (len_cons (len_cons len_nil)))))))
    (s_one (s_weak (O1 := []) (s_ret' p_bl)))
    s_nil)
    (s_cons
    (s_post (O2 := [18, 14, 1]) (s_lc (own := [("text", 20)]) (i := 21) rfl sc_law.nd rfl rfl (sw_true rfl rfl rfl (by first | decide +kernel | rfl)) (blkOk_by (N := N_law) (sc := defScope s_law) (by first | decide +kernel | rfl)) (i_any (p_fre (p_sortSet rfl hr.units rfl ev.blt.sorted rfl ev.blt.set (p_varB (pv 19))))) (fun _ _ _ _ _ => (pg_name (i := 20) sc_law.nd rfl (by first | exact Or.inl rfl | exact Or.inr rfl))) (bnd_name (by decide) (by decide)) (fun _ _ _ _ _ => pts0) (fun _ _ _ _ _ => (p_fnT cr_tupleD rfl ev.blt.tuple bt_tuple (p_aconsB (p_dat (p_fre (p_lc (own := [("k", 9)]) rfl sc_law.nd (blkOk_by (N := N_law) (sc := _) (by first | decide +kernel | rfl)) (i_rng1 (per := true) rfl ev.blt.range (p_aconsB (p_dat (p_fnB cr_lenD rfl ev.blt.len bt_len (p_aconsB (p_varB (pv 19)) p_anil))) p_anil) (len_cons len_nil)) (fun _ _ _ _ _ => (pg_name (i := 9) sc_law.nd rfl (by first | exact Or.inl rfl | exact Or.inr rfl))) (bnd_name (by decide) (by decide)) (fun _ _ _ _ _ => (pts_one (p_cmpT (op_eqB hr.units) ok_rB (p_dat (p_ix (ix_A hr.units) ok_ixA (p_varB (pv 19)) (p_varB (pv 9)))) (p_varB (pv 20)) rfl))) (fun _ _ _ _ _ => (p_var (pv 9)))))) p_anil)))))
    (s_cons
    (s_if (p_not (p_valT (p_dat (p_call (d__law_same ev 12) (hr.mono (by omega)) rfl (p_aconsD (p_call (d_clashes_of ev) (hr.mono (by omega)) rfl (p_aconsD (p_fre (p_fnT (cr_dictD rfl) rfl ev.blt.dict bt_dict (p_aconsB (p_varB (pv 18)) p_anil))) (p_aconsD (p_var (pv 8)) p_anil)) (hlen := (len_cons (len_cons len_nil)))) (p_aconsD (p_fnT cr_tupleD rfl ev.blt.tuple bt_tuple (p_aconsB (p_dat (p_fre (p_fnB (cr_sortedA rfl hr.units) rfl ev.blt.sorted bt_sorted (p_aconsB (p_dat (p_fre (p_lc (own := [("lot", 22)]) rfl sc_law.nd (blkOk_by (N := N_law) (sc := defScope s_law) (by first | decide +kernel | rfl)) (i_any (p_var (pv 21))) (fun _ _ _ _ _ => (pg_name (i := 22) sc_law.nd rfl (by first | exact Or.inl rfl | exact Or.inr rfl))) (bnd_name (by decide) (by decide)) (fun _ _ _ _ _ => (pts_one (p_cmpT (op_gtB hr.units) ok_rB (p_dat (p_fnB cr_lenD rfl ev.blt.len bt_len (p_aconsB (p_varB (pv 22)) p_anil))) (p_dat p_int) rfl))) (fun _ _ _ _ _ => (p_var (pv 22)))))) p_anil)))) p_anil)) p_anil)) (hlen := (len_cons (len_cons len_nil)))))))
    (s_one (s_weak (O1 := []) (s_ret' p_bl)))
    s_nil)
    (s_cons
    (s_parT (js := [4, 23]) (pg_tup rfl (pgs_cons (pg_name (i := 4) sc_law.nd rfl (.inr rfl)) (pgs_cons (pg_name (i := 23) sc_law.nd rfl (.inl rfl)) pgs_nil))) (.cons (.cons .nil)) rfl (m_dat (p_callW (d__law_pick ev) (hr.mono (by omega)) rfl (pv 1) (by decide) (p_aconsE (p_up (p_fre (p_fnT (cr_listA rfl) rfl ev.blt.list bt_list (p_aconsB (p_varB (pv 3)) p_anil)))) p_anilE) (len_consE len_nilE)) (m_dat (p_slcE2 (p_up (p_tup (p_aconsD p_str (p_aconsD p_str (p_aconsD p_str p_anil))) (len_cons (len_cons (len_cons len_nil))))) p_noBE (p_toBE (p_binE op_addA ok_addA (p_up p_int) (p_callW (d__law_next ev) (hr.mono (by omega)) rfl (pv 1) (by decide) (p_aconsE (p_up p_int) p_anilE) (len_consE len_nilE))))) m_nil)) rfl)
    (s_cons
    (s_if (p_not (p_valT (p_dat (p_call (d__law_same ev 12) (hr.mono (by omega)) rfl (p_aconsD (p_call (d_is_clean ev) (hr.mono (by omega)) rfl (p_aconsD (p_fre (p_fnT (cr_dictD rfl) rfl ev.blt.dict bt_dict (p_aconsB (p_dat (p_ix (ix_A hr.units) ok_ixA (p_varB (pv 18)) (p_varB (pv 4)))) p_anil))) (p_aconsD (p_var (pv 23)) p_anil)) (hlen := (len_cons (len_cons len_nil)))) (p_aconsD (p_call (d__law_clean ev) (hr.mono (by omega)) rfl (p_aconsD (p_ix (ix_A hr.units) ok_ixA (p_varB (pv 18)) (p_varB (pv 4))) (p_aconsD (p_var (pv 23)) p_anil)) (hlen := (len_cons (len_cons len_nil)))) p_anil)) (hlen := (len_cons (len_cons len_nil)))))))
    (s_one (s_weak (O1 := []) (s_ret' p_bl)))
    s_nil)
    (s_cons
    (s_asg (ps_set (i := 24) sc_law.nd rfl (.inr rfl) (p_fre (p_lc (own := [("own", 25)]) rfl sc_law.nd (blkOk_by (N := N_law) (sc := defScope s_law) (by first | decide +kernel | rfl)) (i_any (p_var (pv 3))) (fun _ _ _ _ _ => (pg_name (i := 25) sc_law.nd rfl (by first | exact Or.inl rfl | exact Or.inr rfl))) (bnd_name (by decide) (by decide)) (fun _ _ _ _ _ => pts0) (fun _ _ _ _ _ => (p_ix (ix_A hr.units) ok_ixA (p_varB (pv 3)) (p_varB (pv 25))))))) (fun _ _ _ h => h))
    (s_cons
    (s_if (p_not (p_valT (p_dat (p_call (d__law_same ev 12) (hr.mono (by omega)) rfl (p_aconsD (p_call (d_shared_letters ev) (hr.mono (by omega)) rfl (p_aconsD (p_fre (p_fnT (cr_dictD rfl) rfl ev.blt.dict bt_dict (p_aconsB (p_varB (pv 3)) p_anil))) p_anil) (hlen := (len_cons len_nil))) (p_aconsD (p_fnT cr_tupleD rfl ev.blt.tuple bt_tuple (p_aconsB (p_dat (p_fre (p_lc (own := [("sign", 6)]) rfl sc_law.nd (blkOk_by (N := N_law) (sc := defScope s_law) (by first | decide +kernel | rfl)) (i_any p_str) (fun _ _ _ _ _ => (pg_name (i := 6) sc_law.nd rfl (by first | exact Or.inl rfl | exact Or.inr rfl))) (bnd_name (by decide) (by decide)) (fun _ _ _ _ _ => (pts_one (p_cmpT (op_eqB hr.units) ok_rB (p_dat (p_fre (p_lc (own := [("own", 25)]) rfl sc_law.nd (blkOk_by (N := N_law) (sc := _) (by first | decide +kernel | rfl)) (i_any (p_var (pv 24))) (fun _ _ _ _ _ => (pg_name (i := 25) sc_law.nd rfl (by first | exact Or.inl rfl | exact Or.inr rfl))) (bnd_name (by decide) (by decide)) (fun _ _ _ _ _ => (pts_one (p_cmpT (op_notIn2 hr.units) ok_notIn (p_varB (pv 6)) (p_varB (pv 25)) rfl))) (fun _ _ _ _ _ => (p_var (pv 25)))))) (p_dat (p_fre (p_lst p_anil len_nil))) rfl))) (fun _ _ _ _ _ => (p_var (pv 6)))))) p_anil)) p_anil)) (hlen := (len_cons (len_cons len_nil)))))))
    (s_one (s_weak (O1 := []) (s_ret' p_bl)))
    s_nil)
    (s_cons
    (s_parT (js := [26, 27]) (pg_tup rfl (pgs_cons (pg_name (i := 26) sc_law.nd rfl (.inr rfl)) (pgs_cons (pg_name (i := 27) sc_law.nd rfl (.inr rfl)) pgs_nil))) (.cons (.cons .nil)) rfl (m_dat (p_callW (d__law_pick ev) (hr.mono (by omega)) rfl (pv 1) (by decide) (p_aconsE (p_up (p_fre (p_fnT (cr_listA rfl) rfl ev.blt.list bt_list (p_aconsB (p_varB (pv 3)) p_anil)))) p_anilE) (len_consE len_nilE)) (m_dat (p_callW (d__law_pick ev) (hr.mono (by omega)) rfl (pv 1) (by decide) (p_aconsE (p_up (p_fre (p_fnT (cr_listA rfl) rfl ev.blt.list bt_list (p_aconsB (p_varB (pv 3)) p_anil)))) p_anilE) (len_consE len_nilE)) m_nil)) rfl)
    (s_cons
    (s_post (O2 := [18, 14, 1]) (s_lc (own := [("own", 25)]) (i := 28) rfl sc_law.nd rfl rfl (sw_true rfl rfl rfl (by first | decide +kernel | rfl)) (blkOk_by (N := N_law) (sc := defScope s_law) (by first | decide +kernel | rfl)) (i_any (p_fre (p_lst (p_aconsD (p_var (pv 26)) (p_aconsD (p_var (pv 27)) p_anil)) (len_cons (len_cons len_nil))))) (fun _ _ _ _ _ => (pg_name (i := 25) sc_law.nd rfl (by first | exact Or.inl rfl | exact Or.inr rfl))) (bnd_name (by decide) (by decide)) (fun _ _ _ _ _ => pts0) (fun _ _ _ _ _ => (p_fre (p_lc (own := [("sign", 6)]) rfl sc_law.nd (blkOk_by (N := N_law) (sc := _) (by first | decide +kernel | rfl)) (i_any (p_ix (ix_A hr.units) ok_ixA (p_varB (pv 3)) (p_varB (pv 25)))) (fun _ _ _ _ _ => (pg_name (i := 6) sc_law.nd rfl (by first | exact Or.inl rfl | exact Or.inr rfl))) (bnd_name (by decide) (by decide)) (fun _ _ _ _ _ => (pts_one (L2.PW.pt (p_and (p_cmpT (op_in2 hr.units) ok_in (p_varB (pv 6)) (p_dat (p_ix (ix_A hr.units) ok_ixA (p_varB (pv 3)) (p_varB (pv 26)))) rfl) (p_and1 (p_cmpT (op_in2 hr.units) ok_in (p_varB (pv 6)) (p_dat (p_ix (ix_A hr.units) ok_ixA (p_varB (pv 3)) (p_varB (pv 27)))) rfl)))))) (fun _ _ _ _ _ => (p_var (pv 6))))))))
    (s_cons
    (s_if (p_not (p_valT (p_dat (p_call (d__law_says ev) (hr.mono (by omega)) rfl (p_aconsD (p_call (d_order_kept ev) (hr.mono (by omega)) rfl (p_aconsD (p_fre (p_fnT (cr_dictD rfl) rfl ev.blt.dict bt_dict (p_aconsB (p_varB (pv 3)) p_anil))) (p_aconsD (p_var (pv 26)) (p_aconsD (p_var (pv 27)) p_anil))) (hlen := (len_cons (len_cons (len_cons len_nil))))) (p_aconsD (p_cmp (op_eqB hr.units) ok_rB (p_dat (p_ix (ix_A hr.units) ok_ixA (p_varB (pv 28)) (p_dat p_int))) (p_dat (p_ix (ix_A hr.units) ok_ixA (p_varB (pv 28)) (p_dat p_int))) rfl) p_anil)) (hlen := (len_cons (len_cons len_nil)))))))
    (s_one (s_weak (O1 := []) (s_ret' p_bl)))
    s_nil)
    (s_cons
    (s_for (vs := [29, 30]) PassesOwn.never rfl (i_any (p_fre (p_lst (p_aconsD (p_tup (p_aconsD (p_var (pv 8)) (p_aconsD p_bl p_anil)) (len_cons (len_cons len_nil))) (p_aconsD (p_tup (p_aconsD (p_bin op_addA ok_addA (p_varB (pv 8)) (p_dat (p_tup (p_aconsD (p_tup (p_aconsD p_str (p_aconsD p_str p_anil)) (len_cons (len_cons len_nil))) p_anil) (len_cons len_nil)))) (p_aconsD p_bl p_anil)) (len_cons (len_cons len_nil))) (p_aconsD (p_tup (p_aconsD (p_bin op_addA ok_addA (p_varB (pv 8)) (p_dat (p_tup (p_aconsD (p_tup (p_aconsD p_str (p_aconsD p_str p_anil)) (len_cons (len_cons len_nil))) p_anil) (len_cons len_nil)))) (p_aconsD p_bl p_anil)) (len_cons (len_cons len_nil))) (p_aconsD (p_tup (p_aconsD (p_bin op_addA ok_addA (p_varB (pv 8)) (p_dat (p_tup (p_aconsD (p_tup (p_aconsD p_str (p_aconsD p_str p_anil)) (len_cons (len_cons len_nil))) p_anil) (len_cons len_nil)))) (p_aconsD p_bl p_anil)) (len_cons (len_cons len_nil))) (p_aconsD (p_tup (p_aconsD (p_fre (p_fnT (cr_listA rfl) rfl ev.blt.list bt_list (p_aconsB (p_varB (pv 8)) p_anil))) (p_aconsD p_bl p_anil)) (len_cons (len_cons len_nil))) p_anil))))) (len_cons (len_cons (len_cons (len_cons (len_cons len_nil)))))))) (pg_tup rfl (pgs_cons (pg_name (i := 29) sc_law.nd rfl (by first | exact Or.inl rfl | exact Or.inr rfl)) (pgs_cons (pg_name (i := 30) sc_law.nd rfl (by first | exact Or.inl rfl | exact Or.inr rfl)) pgs_nil))) (bnd_tup (js := [29, 30]) (.cons (.cons .nil)) rfl (by decide))
    (s_one (s_if (p_not (p_valT (p_dat (p_call (d__law_says ev) (hr.mono (by omega)) rfl (p_aconsD (p_call (d_are_words ev) (hr.mono (by omega)) rfl (p_aconsD (p_fre (p_fnT (cr_dictD rfl) rfl ev.blt.dict bt_dict (p_aconsB (p_varB (pv 3)) p_anil))) (p_aconsD (p_var (pv 29)) p_anil)) (hlen := (len_cons (len_cons len_nil)))) (p_aconsD (p_var (pv 30)) p_anil)) (hlen := (len_cons (len_cons len_nil)))))))
    (s_one (s_weak (O1 := []) (s_ret' p_bl)))
    s_nil)))
    (s_one (s_for (vs := [29]) PassesOwn.never rfl (i_any (p_fre (p_lst (p_aconsD p_non (p_aconsD (p_tup (p_aconsD (p_tup (p_aconsD p_str p_anil) (len_cons len_nil)) p_anil) (len_cons len_nil)) (p_aconsD (p_tup (p_aconsD (p_tup (p_aconsD p_str (p_aconsD p_int p_anil)) (len_cons (len_cons len_nil))) p_anil) (len_cons len_nil)) (p_aconsD (p_tup (p_aconsD (p_fre (p_lst (p_aconsD p_str (p_aconsD p_str p_anil)) (len_cons (len_cons len_nil)))) p_anil) (len_cons len_nil)) (p_aconsD (p_tup (p_aconsD (p_tup (p_aconsD p_int (p_aconsD p_str p_anil)) (len_cons (len_cons len_nil))) p_anil) (len_cons len_nil)) p_anil))))) (len_cons (len_cons (len_cons (len_cons (len_cons len_nil)))))))) (pg_name (i := 29) sc_law.nd rfl (by first | exact Or.inl rfl | exact Or.inr rfl)) (bnd_name (by decide) (by decide))
    (s_one (s_if (p_cmpT op_isnotB ok_rB (p_dat (p_call (d_are_words ev) (hr.mono (by omega)) rfl (p_aconsD (p_fre (p_fnT (cr_dictD rfl) rfl ev.blt.dict bt_dict (p_aconsB (p_varB (pv 3)) p_anil))) (p_aconsD (p_var (pv 29)) p_anil)) (hlen := (len_cons (len_cons len_nil))))) (p_dat p_bl) rfl)
    (s_one (s_weak (O1 := []) (s_ret' p_bl)))
    s_nil)))))))))))))))))))))))))))))))))))
    (s_one (s_weak (O1 := []) (s_ret' p_bl)))))
end
end LX
set_option Elab.async false
set_option linter.all false
set_option maxRecDepth 100000
namespace LX
open PySem PySem.Spec PyProof.Rows L2 PySem.W PL

theorem next_ok (xs : List Int) (i : Nat) (m : Int) (hm : 0 < m) : ∃ r : Int, 0 ≤ r ∧ r < m ∧ k__law_next (Wd xs i) [.int m] = some (.int r, Wd xs ((i + 1 : Nat) : Int)) := by
  by_cases h : i + 1 > xs.length
  · refine ⟨0, Int.le_refl _, hm, ?_⟩
    refine bdw (ρ' := [some (Wd xs ((i + 1 : Nat) : Int)), some (.int m)]) ?_ rfl
    show m__law_next [some (Wd xs i), some (.int m)] = _
    refine nx (ρ1 := [some (Wd xs ((i + 1 : Nat) : Int)), some (.int m)]) ?_ ?_
    · simp only [e_var, e_cst, e_op1, e_op2, e_op3, e_fn, e_anil, e_acons, e_up, e_op1E, e_op2E, e_fnE, e_anilE, e_aconsE, e_fnW, e_tup, e_lst, e_tupE, e_lstE, e_dnil, e_noB, e_toB, e_slc, e_tru, e_truE, e_andT, e_orT, e_notT, e_andTE, e_orTE, e_notTE, e_andV, e_orV, e_ifE, e_ifEE, e_anyI, e_rng, e_rngE, e_zipTI, e_zipI, e_dis1, e_dis2, e_chn, e_nilS, e_asgS, e_asgE, e_tgtS, e_exprS, e_retS, e_retE, e_retN, e_brkS, e_contS, e_parS, e_putS, e_augS, e_augN, e_mutL, e_yesT, e_yesTE, e_bN, e_bT, e_sa, e_sa0, e_tgs, e_tg0, e_tgN, e_tgS, v_eqI, v_neI, v_eqB, v_ltI, v_gtI, v_leI, v_geI, v_bD, v_notB, v_asB, v_asI, v_notD, v_negD, v_addI, v_addD, v_iop, v_subI, v_lenL, v_lenT, v_lenScr, v_int, v_abs, v_tupL, v_tupT, v_lstL, v_lstT, v_itL, v_itT, v_isL, v_eqNil, Option.bind_some, Option.map_some, Option.join_some, List.getElem?_cons_succ, List.getElem?_cons_zero, List.set_cons_succ, List.set_cons_zero, List.length_cons, List.length_nil, if_pos, if_true, w_dat, w_put]
      rfl
    · refine rt (if1 ?_ rfl)
      simp only [e_var, e_cst, e_op1, e_op2, e_op3, e_fn, e_anil, e_acons, e_up, e_op1E, e_op2E, e_fnE, e_anilE, e_aconsE, e_fnW, e_tup, e_lst, e_tupE, e_lstE, e_dnil, e_noB, e_toB, e_slc, e_tru, e_truE, e_andT, e_orT, e_notT, e_andTE, e_orTE, e_notTE, e_andV, e_orV, e_ifE, e_ifEE, e_anyI, e_rng, e_rngE, e_zipTI, e_zipI, e_dis1, e_dis2, e_chn, e_nilS, e_asgS, e_asgE, e_tgtS, e_exprS, e_retS, e_retE, e_retN, e_brkS, e_contS, e_parS, e_putS, e_augS, e_augN, e_mutL, e_yesT, e_yesTE, e_bN, e_bT, e_sa, e_sa0, e_tgs, e_tg0, e_tgN, e_tgS, v_eqI, v_neI, v_eqB, v_ltI, v_gtI, v_leI, v_geI, v_bD, v_notB, v_asB, v_asI, v_notD, v_negD, v_addI, v_addD, v_iop, v_subI, v_lenL, v_lenT, v_lenScr, v_int, v_abs, v_tupL, v_tupT, v_lstL, v_lstT, v_itL, v_itT, v_isL, v_eqNil, Option.bind_some, Option.map_some, Option.join_some, List.getElem?_cons_succ, List.getElem?_cons_zero, List.set_cons_succ, List.set_cons_zero, List.length_cons, List.length_nil, if_pos, if_true, w_at, w_draws, List.length_map]
      simp
      omega
  · have hi : i < xs.length := by omega
    refine ⟨xs[i] % m, Int.emod_nonneg _ (by omega), Int.emod_lt_of_pos _ hm, ?_⟩
    refine bdw (ρ' := [some (Wd xs ((i + 1 : Nat) : Int)), some (.int m)]) ?_ rfl
    show m__law_next [some (Wd xs i), some (.int m)] = _
    refine nx (ρ1 := [some (Wd xs ((i + 1 : Nat) : Int)), some (.int m)]) ?_ ?_
    · simp only [e_var, e_cst, e_op1, e_op2, e_op3, e_fn, e_anil, e_acons, e_up, e_op1E, e_op2E, e_fnE, e_anilE, e_aconsE, e_fnW, e_tup, e_lst, e_tupE, e_lstE, e_dnil, e_noB, e_toB, e_slc, e_tru, e_truE, e_andT, e_orT, e_notT, e_andTE, e_orTE, e_notTE, e_andV, e_orV, e_ifE, e_ifEE, e_anyI, e_rng, e_rngE, e_zipTI, e_zipI, e_dis1, e_dis2, e_chn, e_nilS, e_asgS, e_asgE, e_tgtS, e_exprS, e_retS, e_retE, e_retN, e_brkS, e_contS, e_parS, e_putS, e_augS, e_augN, e_mutL, e_yesT, e_yesTE, e_bN, e_bT, e_sa, e_sa0, e_tgs, e_tg0, e_tgN, e_tgS, v_eqI, v_neI, v_eqB, v_ltI, v_gtI, v_leI, v_geI, v_bD, v_notB, v_asB, v_asI, v_notD, v_negD, v_addI, v_addD, v_iop, v_subI, v_lenL, v_lenT, v_lenScr, v_int, v_abs, v_tupL, v_tupT, v_lstL, v_lstT, v_itL, v_itT, v_isL, v_eqNil, Option.bind_some, Option.map_some, Option.join_some, List.getElem?_cons_succ, List.getElem?_cons_zero, List.set_cons_succ, List.set_cons_zero, List.length_cons, List.length_nil, if_pos, if_true, w_dat, w_put]
      rfl
    · refine nx (if0 ?_ e_nilS) ?_
      · simp only [e_var, e_cst, e_op1, e_op2, e_op3, e_fn, e_anil, e_acons, e_up, e_op1E, e_op2E, e_fnE, e_anilE, e_aconsE, e_fnW, e_tup, e_lst, e_tupE, e_lstE, e_dnil, e_noB, e_toB, e_slc, e_tru, e_truE, e_andT, e_orT, e_notT, e_andTE, e_orTE, e_notTE, e_andV, e_orV, e_ifE, e_ifEE, e_anyI, e_rng, e_rngE, e_zipTI, e_zipI, e_dis1, e_dis2, e_chn, e_nilS, e_asgS, e_asgE, e_tgtS, e_exprS, e_retS, e_retE, e_retN, e_brkS, e_contS, e_parS, e_putS, e_augS, e_augN, e_mutL, e_yesT, e_yesTE, e_bN, e_bT, e_sa, e_sa0, e_tgs, e_tg0, e_tgN, e_tgS, v_eqI, v_neI, v_eqB, v_ltI, v_gtI, v_leI, v_geI, v_bD, v_notB, v_asB, v_asI, v_notD, v_negD, v_addI, v_addD, v_iop, v_subI, v_lenL, v_lenT, v_lenScr, v_int, v_abs, v_tupL, v_tupT, v_lstL, v_lstT, v_itL, v_itT, v_isL, v_eqNil, Option.bind_some, Option.map_some, Option.join_some, List.getElem?_cons_succ, List.getElem?_cons_zero, List.set_cons_succ, List.set_cons_zero, List.length_cons, List.length_nil, if_pos, if_true, w_at, w_draws, List.length_map]
        simp
        omega
      · have e : ((i + 1 : Nat) : Int) - 1 = (i : Int) := by omega
        have g : ixA (.list (xs.map .int)) (.int (i : Int)) = some (.int xs[i]) := v_ixL (by rw [List.getElem?_map, List.getElem?_eq_getElem hi]; rfl)
        simp only [e_var, e_cst, e_op1, e_op2, e_op3, e_fn, e_anil, e_acons, e_up, e_op1E, e_op2E, e_fnE, e_anilE, e_aconsE, e_fnW, e_tup, e_lst, e_tupE, e_lstE, e_dnil, e_noB, e_toB, e_slc, e_tru, e_truE, e_andT, e_orT, e_notT, e_andTE, e_orTE, e_notTE, e_andV, e_orV, e_ifE, e_ifEE, e_anyI, e_rng, e_rngE, e_zipTI, e_zipI, e_dis1, e_dis2, e_chn, e_nilS, e_asgS, e_asgE, e_tgtS, e_exprS, e_retS, e_retE, e_retN, e_brkS, e_contS, e_parS, e_putS, e_augS, e_augN, e_mutL, e_yesT, e_yesTE, e_bN, e_bT, e_sa, e_sa0, e_tgs, e_tg0, e_tgN, e_tgS, v_eqI, v_neI, v_eqB, v_ltI, v_gtI, v_leI, v_geI, v_bD, v_notB, v_asB, v_asI, v_notD, v_negD, v_addI, v_addD, v_iop, v_subI, v_lenL, v_lenT, v_lenScr, v_int, v_abs, v_tupL, v_tupT, v_lstL, v_lstT, v_itL, v_itT, v_isL, v_eqNil, Option.bind_some, Option.map_some, Option.join_some, List.getElem?_cons_succ, List.getElem?_cons_zero, List.set_cons_succ, List.set_cons_zero, List.length_cons, List.length_nil, if_pos, if_true, w_at, w_draws, e, g, v_modI _ _ hm]
theorem draws_ok (ns : List Int) (M : Nat) (hn : ns.length ≤ 63) (hM : M ≤ 100000) : ∃ xs : List Int, k__law_draws [scr ns, .int (M : Int)] = some (.list (xs.map .int)) := by
  suffices h : ∃ v, k__law_draws [scr ns, .int (M : Int)] = some v ∧ ∃ xs : List Int, v = .list (xs.map .int) by
    obtain ⟨v, e, xs, rfl⟩ := h
    exact ⟨xs, e⟩
  refine Ok.bd ?_
  show Ok m__law_draws [some (scr ns), some (.int (M : Int)), none, none, none, none, none, none] _
  refine Ok.nx (by simp only [e_var, e_cst, e_op1, e_op2, e_op3, e_fn, e_anil, e_acons, e_up, e_op1E, e_op2E, e_fnE, e_anilE, e_aconsE, e_fnW, e_tup, e_lst, e_tupE, e_lstE, e_dnil, e_noB, e_toB, e_slc, e_tru, e_truE, e_andT, e_orT, e_notT, e_andTE, e_orTE, e_notTE, e_andV, e_orV, e_ifE, e_ifEE, e_anyI, e_rng, e_rngE, e_zipTI, e_zipI, e_dis1, e_dis2, e_chn, e_nilS, e_asgS, e_asgE, e_tgtS, e_exprS, e_retS, e_retE, e_retN, e_brkS, e_contS, e_parS, e_putS, e_augS, e_augN, e_mutL, e_yesT, e_yesTE, e_bN, e_bT, e_sa, e_sa0, e_tgs, e_tg0, e_tgN, e_tgS, v_eqI, v_neI, v_eqB, v_ltI, v_gtI, v_leI, v_geI, v_bD, v_notB, v_asB, v_asI, v_notD, v_negD, v_addI, v_addD, v_iop, v_subI, v_lenL, v_lenT, v_lenScr, v_int, v_abs, v_tupL, v_tupT, v_lstL, v_lstT, v_itL, v_itT, v_isL, v_eqNil, Option.bind_some, Option.map_some, Option.join_some, List.getElem?_cons_succ, List.getElem?_cons_zero, List.set_cons_succ, List.set_cons_zero, List.length_cons, List.length_nil, if_pos, if_true] <;> rfl) (Ok.nx (by simp only [e_var, e_cst, e_op1, e_op2, e_op3, e_fn, e_anil, e_acons, e_up, e_op1E, e_op2E, e_fnE, e_anilE, e_aconsE, e_fnW, e_tup, e_lst, e_tupE, e_lstE, e_dnil, e_noB, e_toB, e_slc, e_tru, e_truE, e_andT, e_orT, e_notT, e_andTE, e_orTE, e_notTE, e_andV, e_orV, e_ifE, e_ifEE, e_anyI, e_rng, e_rngE, e_zipTI, e_zipI, e_dis1, e_dis2, e_chn, e_nilS, e_asgS, e_asgE, e_tgtS, e_exprS, e_retS, e_retE, e_retN, e_brkS, e_contS, e_parS, e_putS, e_augS, e_augN, e_mutL, e_yesT, e_yesTE, e_bN, e_bT, e_sa, e_sa0, e_tgs, e_tg0, e_tgN, e_tgS, v_eqI, v_neI, v_eqB, v_ltI, v_gtI, v_leI, v_geI, v_bD, v_notB, v_asB, v_asI, v_notD, v_negD, v_addI, v_addD, v_iop, v_subI, v_lenL, v_lenT, v_lenScr, v_int, v_abs, v_tupL, v_tupT, v_lstL, v_lstT, v_itL, v_itT, v_isL, v_eqNil, Option.bind_some, Option.map_some, Option.join_some, List.getElem?_cons_succ, List.getElem?_cons_zero, List.set_cons_succ, List.set_cons_zero, List.length_cons, List.length_nil, if_pos, if_true] <;> rfl) ?_)
  let I : Nat → PL.Env → Prop := fun n ρ => ∃ (xs : List Int) (mx : Int) (a b c d : Option D), ρ = [some (scr ns), some (.int (M : Int)), some (.list (xs.map .int)), some (.int mx), a, b, c, d] ∧ xs.length ≤ 62 * n
  refine Ok.seq (I := I ns.length) ?_ fun ρ1 hi => ?_
  · have e : ns.length = (List.range ns.length).length := List.length_range.symm
    rw [e]
    refine Ok.forSi (enc := fun i : Nat => PyData.int (i : Int)) I (List.range ns.length) ?_ (fun i k hk ρ hi => ?_) ⟨[], 7, none, none, none, none, rfl, Nat.le_refl _⟩
    · simp only [e_var, e_cst, e_op1, e_op2, e_op3, e_fn, e_anil, e_acons, e_up, e_op1E, e_op2E, e_fnE, e_anilE, e_aconsE, e_fnW, e_tup, e_lst, e_tupE, e_lstE, e_dnil, e_noB, e_toB, e_slc, e_tru, e_truE, e_andT, e_orT, e_notT, e_andTE, e_orTE, e_notTE, e_andV, e_orV, e_ifE, e_ifEE, e_anyI, e_rng, e_rngE, e_zipTI, e_zipI, e_dis1, e_dis2, e_chn, e_nilS, e_asgS, e_asgE, e_tgtS, e_exprS, e_retS, e_retE, e_retN, e_brkS, e_contS, e_parS, e_putS, e_augS, e_augN, e_mutL, e_yesT, e_yesTE, e_bN, e_bT, e_sa, e_sa0, e_tgs, e_tg0, e_tgN, e_tgS, v_eqI, v_neI, v_eqB, v_ltI, v_gtI, v_leI, v_geI, v_bD, v_notB, v_asB, v_asI, v_notD, v_negD, v_addI, v_addD, v_iop, v_subI, v_lenL, v_lenT, v_lenScr, v_int, v_abs, v_tupL, v_tupT, v_lstL, v_lstT, v_itL, v_itT, v_isL, v_eqNil, Option.bind_some, Option.map_some, Option.join_some, List.getElem?_cons_succ, List.getElem?_cons_zero, List.set_cons_succ, List.set_cons_zero, List.length_cons, List.length_nil, if_pos, if_true, v_lenScr, v_rng1 _ (show ns.length ≤ 16777216 by omega)]
    · obtain ⟨xs, mx, a, b, c, d, rfl, hl⟩ := hi
      obtain ⟨rfl, hk'⟩ := range_get hk
      refine ⟨_, rfl, ?_⟩
      show Ok _ [some (scr ns), some (.int (M : Int)), some (.list (xs.map .int)), some (.int mx), some (.int (k : Int)), b, c, d] _
      have g : ixA (scr ns) (.int (k : Int)) = some (.int ns[k]) := v_ixScr (List.getElem?_eq_getElem hk')
      refine Ok.nx (by simp only [e_var, e_cst, e_op1, e_op2, e_op3, e_fn, e_anil, e_acons, e_up, e_op1E, e_op2E, e_fnE, e_anilE, e_aconsE, e_fnW, e_tup, e_lst, e_tupE, e_lstE, e_dnil, e_noB, e_toB, e_slc, e_tru, e_truE, e_andT, e_orT, e_notT, e_andTE, e_orTE, e_notTE, e_andV, e_orV, e_ifE, e_ifEE, e_anyI, e_rng, e_rngE, e_zipTI, e_zipI, e_dis1, e_dis2, e_chn, e_nilS, e_asgS, e_asgE, e_tgtS, e_exprS, e_retS, e_retE, e_retN, e_brkS, e_contS, e_parS, e_putS, e_augS, e_augN, e_mutL, e_yesT, e_yesTE, e_bN, e_bT, e_sa, e_sa0, e_tgs, e_tg0, e_tgN, e_tgS, v_eqI, v_neI, v_eqB, v_ltI, v_gtI, v_leI, v_geI, v_bD, v_notB, v_asB, v_asI, v_notD, v_negD, v_addI, v_addD, v_iop, v_subI, v_lenL, v_lenT, v_lenScr, v_int, v_abs, v_tupL, v_tupT, v_lstL, v_lstT, v_itL, v_itT, v_isL, v_eqNil, Option.bind_some, Option.map_some, Option.join_some, List.getElem?_cons_succ, List.getElem?_cons_zero, List.set_cons_succ, List.set_cons_zero, List.length_cons, List.length_nil, if_pos, if_true, g] <;> rfl) ?_
      generalize hcl : (if ns[k] < 0 then -ns[k] else ns[k]) = cl
      refine Ok.nx (by simp only [e_var, e_cst, e_op1, e_op2, e_op3, e_fn, e_anil, e_acons, e_up, e_op1E, e_op2E, e_fnE, e_anilE, e_aconsE, e_fnW, e_tup, e_lst, e_tupE, e_lstE, e_dnil, e_noB, e_toB, e_slc, e_tru, e_truE, e_andT, e_orT, e_notT, e_andTE, e_orTE, e_notTE, e_andV, e_orV, e_ifE, e_ifEE, e_anyI, e_rng, e_rngE, e_zipTI, e_zipI, e_dis1, e_dis2, e_chn, e_nilS, e_asgS, e_asgE, e_tgtS, e_exprS, e_retS, e_retE, e_retN, e_brkS, e_contS, e_parS, e_putS, e_augS, e_augN, e_mutL, e_yesT, e_yesTE, e_bN, e_bT, e_sa, e_sa0, e_tgs, e_tg0, e_tgN, e_tgS, v_eqI, v_neI, v_eqB, v_ltI, v_gtI, v_leI, v_geI, v_bD, v_notB, v_asB, v_asI, v_notD, v_negD, v_addI, v_addD, v_iop, v_subI, v_lenL, v_lenT, v_lenScr, v_int, v_abs, v_tupL, v_tupT, v_lstL, v_lstT, v_itL, v_itT, v_isL, v_eqNil, Option.bind_some, Option.map_some, Option.join_some, List.getElem?_cons_succ, List.getElem?_cons_zero, List.set_cons_succ, List.set_cons_zero, List.length_cons, List.length_nil, if_pos, if_true, v_mulI _ 48271 (.inr (by decide)), v_modI _ 1000003 (by decide), v_modI _ 65537 (by decide)] <;> rfl) ?_
      generalize (mx * 48271 + cl % 1000003 + (k : Int)) % 65537 = mx2
      refine Ok.nx (by simp only [e_var, e_cst, e_op1, e_op2, e_op3, e_fn, e_anil, e_acons, e_up, e_op1E, e_op2E, e_fnE, e_anilE, e_aconsE, e_fnW, e_tup, e_lst, e_tupE, e_lstE, e_dnil, e_noB, e_toB, e_slc, e_tru, e_truE, e_andT, e_orT, e_notT, e_andTE, e_orTE, e_notTE, e_andV, e_orV, e_ifE, e_ifEE, e_anyI, e_rng, e_rngE, e_zipTI, e_zipI, e_dis1, e_dis2, e_chn, e_nilS, e_asgS, e_asgE, e_tgtS, e_exprS, e_retS, e_retE, e_retN, e_brkS, e_contS, e_parS, e_putS, e_augS, e_augN, e_mutL, e_yesT, e_yesTE, e_bN, e_bT, e_sa, e_sa0, e_tgs, e_tg0, e_tgN, e_tgS, v_eqI, v_neI, v_eqB, v_ltI, v_gtI, v_leI, v_geI, v_bD, v_notB, v_asB, v_asI, v_notD, v_negD, v_addI, v_addD, v_iop, v_subI, v_lenL, v_lenT, v_lenScr, v_int, v_abs, v_tupL, v_tupT, v_lstL, v_lstT, v_itL, v_itT, v_isL, v_eqNil, Option.bind_some, Option.map_some, Option.join_some, List.getElem?_cons_succ, List.getElem?_cons_zero, List.set_cons_succ, List.set_cons_zero, List.length_cons, List.length_nil, if_pos, if_true] <;> rfl) ?_
      show Ok _ [some (scr ns), some (.int (M : Int)), some (.list (xs.map .int)), some (.int mx2), some (.int (k : Int)), some (.int cl), some (.int 0), d] _
      refine Ok.seq (I := fun ρ => ∃ (ys : List Int) (r : Int), ρ = [some (scr ns), some (.int (M : Int)), some (.list (ys.map .int)), some (.int mx2), some (.int (k : Int)), some (.int cl), some (.int r), d] ∧ ys.length ≤ 62 * k + 2) ?_ fun ρ1 hi => ?_
      · refine Ok.if (b := decide ((10 : Int) ^ 18 ≤ cl)) ?_ (fun _ => ?_) fun _ => ?_
        · have p : powD (.int 10) (.int 18) = some (.int (10 ^ 18)) := rfl
          simp only [e_var, e_cst, e_op1, e_op2, e_op3, e_fn, e_anil, e_acons, e_up, e_op1E, e_op2E, e_fnE, e_anilE, e_aconsE, e_fnW, e_tup, e_lst, e_tupE, e_lstE, e_dnil, e_noB, e_toB, e_slc, e_tru, e_truE, e_andT, e_orT, e_notT, e_andTE, e_orTE, e_notTE, e_andV, e_orV, e_ifE, e_ifEE, e_anyI, e_rng, e_rngE, e_zipTI, e_zipI, e_dis1, e_dis2, e_chn, e_nilS, e_asgS, e_asgE, e_tgtS, e_exprS, e_retS, e_retE, e_retN, e_brkS, e_contS, e_parS, e_putS, e_augS, e_augN, e_mutL, e_yesT, e_yesTE, e_bN, e_bT, e_sa, e_sa0, e_tgs, e_tg0, e_tgN, e_tgS, v_eqI, v_neI, v_eqB, v_ltI, v_gtI, v_leI, v_geI, v_bD, v_notB, v_asB, v_asI, v_notD, v_negD, v_addI, v_addD, v_iop, v_subI, v_lenL, v_lenT, v_lenScr, v_int, v_abs, v_tupL, v_tupT, v_lstL, v_lstT, v_itL, v_itT, v_isL, v_eqNil, Option.bind_some, Option.map_some, Option.join_some, List.getElem?_cons_succ, List.getElem?_cons_zero, List.set_cons_succ, List.set_cons_zero, List.length_cons, List.length_nil, if_pos, if_true, p]
        · exact Ok.one (by simp only [e_var, e_cst, e_op1, e_op2, e_op3, e_fn, e_anil, e_acons, e_up, e_op1E, e_op2E, e_fnE, e_anilE, e_aconsE, e_fnW, e_tup, e_lst, e_tupE, e_lstE, e_dnil, e_noB, e_toB, e_slc, e_tru, e_truE, e_andT, e_orT, e_notT, e_andTE, e_orTE, e_notTE, e_andV, e_orV, e_ifE, e_ifEE, e_anyI, e_rng, e_rngE, e_zipTI, e_zipI, e_dis1, e_dis2, e_chn, e_nilS, e_asgS, e_asgE, e_tgtS, e_exprS, e_retS, e_retE, e_retN, e_brkS, e_contS, e_parS, e_putS, e_augS, e_augN, e_mutL, e_yesT, e_yesTE, e_bN, e_bT, e_sa, e_sa0, e_tgs, e_tg0, e_tgN, e_tgS, v_eqI, v_neI, v_eqB, v_ltI, v_gtI, v_leI, v_geI, v_bD, v_notB, v_asB, v_asI, v_notD, v_negD, v_addI, v_addD, v_iop, v_subI, v_lenL, v_lenT, v_lenScr, v_int, v_abs, v_tupL, v_tupT, v_lstL, v_lstT, v_itL, v_itT, v_isL, v_eqNil, Option.bind_some, Option.map_some, Option.join_some, List.getElem?_cons_succ, List.getElem?_cons_zero, List.set_cons_succ, List.set_cons_zero, List.length_cons, List.length_nil, if_pos, if_true] <;> rfl) ⟨rfl, xs, cl, rfl, by omega⟩
        · have ap1 : ∀ x, appendD (.list (xs.map .int)) [x] = _ := fun x => v_append (xs.map PyData.int) x (by rw [List.length_map]; omega)
          have ap2 : ∀ y x, appendD (.list (xs.map .int ++ [y])) [x] = _ := fun y x => v_append (xs.map PyData.int ++ [y]) x (by rw [List.length_append, List.length_map, List.length_singleton]; omega)
          refine Ok.nx (by simp only [e_var, e_cst, e_op1, e_op2, e_op3, e_fn, e_anil, e_acons, e_up, e_op1E, e_op2E, e_fnE, e_anilE, e_aconsE, e_fnW, e_tup, e_lst, e_tupE, e_lstE, e_dnil, e_noB, e_toB, e_slc, e_tru, e_truE, e_andT, e_orT, e_notT, e_andTE, e_orTE, e_notTE, e_andV, e_orV, e_ifE, e_ifEE, e_anyI, e_rng, e_rngE, e_zipTI, e_zipI, e_dis1, e_dis2, e_chn, e_nilS, e_asgS, e_asgE, e_tgtS, e_exprS, e_retS, e_retE, e_retN, e_brkS, e_contS, e_parS, e_putS, e_augS, e_augN, e_mutL, e_yesT, e_yesTE, e_bN, e_bT, e_sa, e_sa0, e_tgs, e_tg0, e_tgN, e_tgS, v_eqI, v_neI, v_eqB, v_ltI, v_gtI, v_leI, v_geI, v_bD, v_notB, v_asB, v_asI, v_notD, v_negD, v_addI, v_addD, v_iop, v_subI, v_lenL, v_lenT, v_lenScr, v_int, v_abs, v_tupL, v_tupT, v_lstL, v_lstT, v_itL, v_itT, v_isL, v_eqNil, Option.bind_some, Option.map_some, Option.join_some, List.getElem?_cons_succ, List.getElem?_cons_zero, List.set_cons_succ, List.set_cons_zero, List.length_cons, List.length_nil, if_pos, if_true, v_modI _ 997 (by decide), ap1] <;> rfl) ?_
          refine Ok.one (by simp only [e_var, e_cst, e_op1, e_op2, e_op3, e_fn, e_anil, e_acons, e_up, e_op1E, e_op2E, e_fnE, e_anilE, e_aconsE, e_fnW, e_tup, e_lst, e_tupE, e_lstE, e_dnil, e_noB, e_toB, e_slc, e_tru, e_truE, e_andT, e_orT, e_notT, e_andTE, e_orTE, e_notTE, e_andV, e_orV, e_ifE, e_ifEE, e_anyI, e_rng, e_rngE, e_zipTI, e_zipI, e_dis1, e_dis2, e_chn, e_nilS, e_asgS, e_asgE, e_tgtS, e_exprS, e_retS, e_retE, e_retN, e_brkS, e_contS, e_parS, e_putS, e_augS, e_augN, e_mutL, e_yesT, e_yesTE, e_bN, e_bT, e_sa, e_sa0, e_tgs, e_tg0, e_tgN, e_tgS, v_eqI, v_neI, v_eqB, v_ltI, v_gtI, v_leI, v_geI, v_bD, v_notB, v_asB, v_asI, v_notD, v_negD, v_addI, v_addD, v_iop, v_subI, v_lenL, v_lenT, v_lenScr, v_int, v_abs, v_tupL, v_tupT, v_lstL, v_lstT, v_itL, v_itT, v_isL, v_eqNil, Option.bind_some, Option.map_some, Option.join_some, List.getElem?_cons_succ, List.getElem?_cons_zero, List.set_cons_succ, List.set_cons_zero, List.length_cons, List.length_nil, if_pos, if_true, v_mulI _ 69621 (.inr (by decide)), v_modI _ 65521 (by decide), v_modI _ 997 (by decide), ap2] <;> rfl) ⟨rfl, xs ++ [cl % 997] ++ [(mx2 * 69621 + 5) % 65521 % 997], 0, ?_, ?_⟩
          · simp only [List.map_append, List.map_cons, List.map_nil]
          · simp only [List.length_append, List.length_singleton]; omega
      · obtain ⟨ys, r, rfl, hy⟩ := hi
        refine Ok.mono (Ok.forSi (enc := fun i : Nat => PyData.int (i : Int)) (fun n ρ => ∃ (zs : List Int) (r : Int) (d : Option D), ρ = [some (scr ns), some (.int (M : Int)), some (.list (zs.map .int)), some (.int mx2), some (.int (k : Int)), some (.int cl), some (.int r), d] ∧ zs.length ≤ 62 * k + 2 + n) (List.range 60) ?_ (fun i j hj ρ hi => ?_) ⟨ys, r, d, rfl, hy⟩) fun fl ρ' h => ⟨h.1, ?_⟩
        · simp only [e_var, e_cst, e_op1, e_op2, e_op3, e_fn, e_anil, e_acons, e_up, e_op1E, e_op2E, e_fnE, e_anilE, e_aconsE, e_fnW, e_tup, e_lst, e_tupE, e_lstE, e_dnil, e_noB, e_toB, e_slc, e_tru, e_truE, e_andT, e_orT, e_notT, e_andTE, e_orTE, e_notTE, e_andV, e_orV, e_ifE, e_ifEE, e_anyI, e_rng, e_rngE, e_zipTI, e_zipI, e_dis1, e_dis2, e_chn, e_nilS, e_asgS, e_asgE, e_tgtS, e_exprS, e_retS, e_retE, e_retN, e_brkS, e_contS, e_parS, e_putS, e_augS, e_augN, e_mutL, e_yesT, e_yesTE, e_bN, e_bT, e_sa, e_sa0, e_tgs, e_tg0, e_tgN, e_tgS, v_eqI, v_neI, v_eqB, v_ltI, v_gtI, v_leI, v_geI, v_bD, v_notB, v_asB, v_asI, v_notD, v_negD, v_addI, v_addD, v_iop, v_subI, v_lenL, v_lenT, v_lenScr, v_int, v_abs, v_tupL, v_tupT, v_lstL, v_lstT, v_itL, v_itT, v_isL, v_eqNil, Option.bind_some, Option.map_some, Option.join_some, List.getElem?_cons_succ, List.getElem?_cons_zero, List.set_cons_succ, List.set_cons_zero, List.length_cons, List.length_nil, if_pos, if_true]
          exact v_rng1 60 (by decide)
        · obtain ⟨zs, r, d, rfl, hz⟩ := hi
          obtain ⟨rfl, hj'⟩ := range_get hj
          refine ⟨_, rfl, ?_⟩
          show Ok _ [some (scr ns), some (.int (M : Int)), some (.list (zs.map .int)), some (.int mx2), some (.int (k : Int)), some (.int cl), some (.int r), some (.int (j : Int))] _
          refine Ok.if (b := decide ((0 : Int) < r)) (by simp only [e_var, e_cst, e_op1, e_op2, e_op3, e_fn, e_anil, e_acons, e_up, e_op1E, e_op2E, e_fnE, e_anilE, e_aconsE, e_fnW, e_tup, e_lst, e_tupE, e_lstE, e_dnil, e_noB, e_toB, e_slc, e_tru, e_truE, e_andT, e_orT, e_notT, e_andTE, e_orTE, e_notTE, e_andV, e_orV, e_ifE, e_ifEE, e_anyI, e_rng, e_rngE, e_zipTI, e_zipI, e_dis1, e_dis2, e_chn, e_nilS, e_asgS, e_asgE, e_tgtS, e_exprS, e_retS, e_retE, e_retN, e_brkS, e_contS, e_parS, e_putS, e_augS, e_augN, e_mutL, e_yesT, e_yesTE, e_bN, e_bT, e_sa, e_sa0, e_tgs, e_tg0, e_tgN, e_tgS, v_eqI, v_neI, v_eqB, v_ltI, v_gtI, v_leI, v_geI, v_bD, v_notB, v_asB, v_asI, v_notD, v_negD, v_addI, v_addD, v_iop, v_subI, v_lenL, v_lenT, v_lenScr, v_int, v_abs, v_tupL, v_tupT, v_lstL, v_lstT, v_itL, v_itT, v_isL, v_eqNil, Option.bind_some, Option.map_some, Option.join_some, List.getElem?_cons_succ, List.getElem?_cons_zero, List.set_cons_succ, List.set_cons_zero, List.length_cons, List.length_nil, if_pos, if_true]) (fun _ => ?_) fun _ => Ok.nil ⟨rfl, zs, r, _, rfl, by omega⟩
          refine Ok.nx (by simp only [e_var, e_cst, e_op1, e_op2, e_op3, e_fn, e_anil, e_acons, e_up, e_op1E, e_op2E, e_fnE, e_anilE, e_aconsE, e_fnW, e_tup, e_lst, e_tupE, e_lstE, e_dnil, e_noB, e_toB, e_slc, e_tru, e_truE, e_andT, e_orT, e_notT, e_andTE, e_orTE, e_notTE, e_andV, e_orV, e_ifE, e_ifEE, e_anyI, e_rng, e_rngE, e_zipTI, e_zipI, e_dis1, e_dis2, e_chn, e_nilS, e_asgS, e_asgE, e_tgtS, e_exprS, e_retS, e_retE, e_retN, e_brkS, e_contS, e_parS, e_putS, e_augS, e_augN, e_mutL, e_yesT, e_yesTE, e_bN, e_bT, e_sa, e_sa0, e_tgs, e_tg0, e_tgN, e_tgS, v_eqI, v_neI, v_eqB, v_ltI, v_gtI, v_leI, v_geI, v_bD, v_notB, v_asB, v_asI, v_notD, v_negD, v_addI, v_addD, v_iop, v_subI, v_lenL, v_lenT, v_lenScr, v_int, v_abs, v_tupL, v_tupT, v_lstL, v_lstT, v_itL, v_itT, v_isL, v_eqNil, Option.bind_some, Option.map_some, Option.join_some, List.getElem?_cons_succ, List.getElem?_cons_zero, List.set_cons_succ, List.set_cons_zero, List.length_cons, List.length_nil, if_pos, if_true, v_modI _ 997 (by decide), v_append (zs.map PyData.int) _ (show (zs.map PyData.int).length < 16777216 by rw [List.length_map]; omega)] <;> rfl) ?_
          refine Ok.one (by simp only [e_var, e_cst, e_op1, e_op2, e_op3, e_fn, e_anil, e_acons, e_up, e_op1E, e_op2E, e_fnE, e_anilE, e_aconsE, e_fnW, e_tup, e_lst, e_tupE, e_lstE, e_dnil, e_noB, e_toB, e_slc, e_tru, e_truE, e_andT, e_orT, e_notT, e_andTE, e_orTE, e_notTE, e_andV, e_orV, e_ifE, e_ifEE, e_anyI, e_rng, e_rngE, e_zipTI, e_zipI, e_dis1, e_dis2, e_chn, e_nilS, e_asgS, e_asgE, e_tgtS, e_exprS, e_retS, e_retE, e_retN, e_brkS, e_contS, e_parS, e_putS, e_augS, e_augN, e_mutL, e_yesT, e_yesTE, e_bN, e_bT, e_sa, e_sa0, e_tgs, e_tg0, e_tgN, e_tgS, v_eqI, v_neI, v_eqB, v_ltI, v_gtI, v_leI, v_geI, v_bD, v_notB, v_asB, v_asI, v_notD, v_negD, v_addI, v_addD, v_iop, v_subI, v_lenL, v_lenT, v_lenScr, v_int, v_abs, v_tupL, v_tupT, v_lstL, v_lstT, v_itL, v_itT, v_isL, v_eqNil, Option.bind_some, Option.map_some, Option.join_some, List.getElem?_cons_succ, List.getElem?_cons_zero, List.set_cons_succ, List.set_cons_zero, List.length_cons, List.length_nil, if_pos, if_true, v_fdivI _ 997 (by decide)] <;> rfl) ⟨rfl, zs ++ [r % 997], r / 997, some (.int (j : Int)), ?_, ?_⟩
          · simp only [List.map_append, List.map_cons, List.map_nil]
          · simp only [List.length_append, List.length_singleton]; omega
        · obtain ⟨_, zs, r, d, rfl, hz⟩ := h
          rw [List.length_range] at hz
          exact ⟨zs, mx2, _, _, _, _, rfl, by omega⟩
  · obtain ⟨xs, mx, a, b, c, d, rfl, hl⟩ := hi
    refine Ok.seq (I := fun ρ => ∃ (zs : List Int) (m : Int) (a : Option D), ρ = [some (scr ns), some (.int (M : Int)), some (.list (zs.map .int)), some (.int m), a, b, c, d]) ?_ fun ρ1 hi => ?_
    · refine Ok.mono (Ok.forSi (enc := fun i : Nat => PyData.int (i : Int)) (fun n ρ => ∃ (zs : List Int) (m : Int) (a : Option D), ρ = [some (scr ns), some (.int (M : Int)), some (.list (zs.map .int)), some (.int m), a, b, c, d] ∧ zs.length ≤ 62 * ns.length + n) (List.range M) ?_ (fun i j hj ρ hi => ?_) ⟨xs, mx, a, rfl, hl⟩) fun fl ρ' h => ⟨h.1, ?_⟩
      · simp only [e_var, e_cst, e_op1, e_op2, e_op3, e_fn, e_anil, e_acons, e_up, e_op1E, e_op2E, e_fnE, e_anilE, e_aconsE, e_fnW, e_tup, e_lst, e_tupE, e_lstE, e_dnil, e_noB, e_toB, e_slc, e_tru, e_truE, e_andT, e_orT, e_notT, e_andTE, e_orTE, e_notTE, e_andV, e_orV, e_ifE, e_ifEE, e_anyI, e_rng, e_rngE, e_zipTI, e_zipI, e_dis1, e_dis2, e_chn, e_nilS, e_asgS, e_asgE, e_tgtS, e_exprS, e_retS, e_retE, e_retN, e_brkS, e_contS, e_parS, e_putS, e_augS, e_augN, e_mutL, e_yesT, e_yesTE, e_bN, e_bT, e_sa, e_sa0, e_tgs, e_tg0, e_tgN, e_tgS, v_eqI, v_neI, v_eqB, v_ltI, v_gtI, v_leI, v_geI, v_bD, v_notB, v_asB, v_asI, v_notD, v_negD, v_addI, v_addD, v_iop, v_subI, v_lenL, v_lenT, v_lenScr, v_int, v_abs, v_tupL, v_tupT, v_lstL, v_lstT, v_itL, v_itT, v_isL, v_eqNil, Option.bind_some, Option.map_some, Option.join_some, List.getElem?_cons_succ, List.getElem?_cons_zero, List.set_cons_succ, List.set_cons_zero, List.length_cons, List.length_nil, if_pos, if_true]
        exact v_rng1 M (by omega)
      · obtain ⟨zs, m, a, rfl, hz⟩ := hi
        obtain ⟨rfl, hj'⟩ := range_get hj
        refine ⟨_, rfl, ?_⟩
        show Ok _ [some (scr ns), some (.int (M : Int)), some (.list (zs.map .int)), some (.int m), some (.int (j : Int)), b, c, d] _
        refine Ok.nx (by simp only [e_var, e_cst, e_op1, e_op2, e_op3, e_fn, e_anil, e_acons, e_up, e_op1E, e_op2E, e_fnE, e_anilE, e_aconsE, e_fnW, e_tup, e_lst, e_tupE, e_lstE, e_dnil, e_noB, e_toB, e_slc, e_tru, e_truE, e_andT, e_orT, e_notT, e_andTE, e_orTE, e_notTE, e_andV, e_orV, e_ifE, e_ifEE, e_anyI, e_rng, e_rngE, e_zipTI, e_zipI, e_dis1, e_dis2, e_chn, e_nilS, e_asgS, e_asgE, e_tgtS, e_exprS, e_retS, e_retE, e_retN, e_brkS, e_contS, e_parS, e_putS, e_augS, e_augN, e_mutL, e_yesT, e_yesTE, e_bN, e_bT, e_sa, e_sa0, e_tgs, e_tg0, e_tgN, e_tgS, v_eqI, v_neI, v_eqB, v_ltI, v_gtI, v_leI, v_geI, v_bD, v_notB, v_asB, v_asI, v_notD, v_negD, v_addI, v_addD, v_iop, v_subI, v_lenL, v_lenT, v_lenScr, v_int, v_abs, v_tupL, v_tupT, v_lstL, v_lstT, v_itL, v_itT, v_isL, v_eqNil, Option.bind_some, Option.map_some, Option.join_some, List.getElem?_cons_succ, List.getElem?_cons_zero, List.set_cons_succ, List.set_cons_zero, List.length_cons, List.length_nil, if_pos, if_true, v_mulI _ 16807 (.inr (by decide)), v_modI _ 65537 (by decide)] <;> rfl) ?_
        refine Ok.one (by simp only [e_var, e_cst, e_op1, e_op2, e_op3, e_fn, e_anil, e_acons, e_up, e_op1E, e_op2E, e_fnE, e_anilE, e_aconsE, e_fnW, e_tup, e_lst, e_tupE, e_lstE, e_dnil, e_noB, e_toB, e_slc, e_tru, e_truE, e_andT, e_orT, e_notT, e_andTE, e_orTE, e_notTE, e_andV, e_orV, e_ifE, e_ifEE, e_anyI, e_rng, e_rngE, e_zipTI, e_zipI, e_dis1, e_dis2, e_chn, e_nilS, e_asgS, e_asgE, e_tgtS, e_exprS, e_retS, e_retE, e_retN, e_brkS, e_contS, e_parS, e_putS, e_augS, e_augN, e_mutL, e_yesT, e_yesTE, e_bN, e_bT, e_sa, e_sa0, e_tgs, e_tg0, e_tgN, e_tgS, v_eqI, v_neI, v_eqB, v_ltI, v_gtI, v_leI, v_geI, v_bD, v_notB, v_asB, v_asI, v_notD, v_negD, v_addI, v_addD, v_iop, v_subI, v_lenL, v_lenT, v_lenScr, v_int, v_abs, v_tupL, v_tupT, v_lstL, v_lstT, v_itL, v_itT, v_isL, v_eqNil, Option.bind_some, Option.map_some, Option.join_some, List.getElem?_cons_succ, List.getElem?_cons_zero, List.set_cons_succ, List.set_cons_zero, List.length_cons, List.length_nil, if_pos, if_true, v_modI _ 997 (by decide), v_append (zs.map PyData.int) _ (show (zs.map PyData.int).length < 16777216 by rw [List.length_map]; omega)] <;> rfl) ⟨rfl, zs ++ [(m * 16807 + (j : Int) + 1) % 65537 % 997], (m * 16807 + (j : Int) + 1) % 65537, some (.int (j : Int)), ?_, ?_⟩
        · simp only [List.map_append, List.map_cons, List.map_nil]
        · simp only [List.length_append, List.length_singleton]; omega
      · obtain ⟨_, zs, m, a, rfl, _⟩ := h
        exact ⟨zs, m, a, rfl⟩
    · obtain ⟨zs, m, a, rfl⟩ := hi
      obtain ⟨ys, e, _⟩ := cut_map PyData.int zs none (some (M : Int))
      refine Ok.one (fl := .ret (.list (ys.map .int))) (ρ1 := [some (scr ns), some (.int (M : Int)), some (.list (zs.map .int)), some (.int m), a, b, c, d]) ?_ ⟨_, rfl, ys, rfl⟩
      simp only [e_var, e_cst, e_op1, e_op2, e_op3, e_fn, e_anil, e_acons, e_up, e_op1E, e_op2E, e_fnE, e_anilE, e_aconsE, e_fnW, e_tup, e_lst, e_tupE, e_lstE, e_dnil, e_noB, e_toB, e_slc, e_tru, e_truE, e_andT, e_orT, e_notT, e_andTE, e_orTE, e_notTE, e_andV, e_orV, e_ifE, e_ifEE, e_anyI, e_rng, e_rngE, e_zipTI, e_zipI, e_dis1, e_dis2, e_chn, e_nilS, e_asgS, e_asgE, e_tgtS, e_exprS, e_retS, e_retE, e_retN, e_brkS, e_contS, e_parS, e_putS, e_augS, e_augN, e_mutL, e_yesT, e_yesTE, e_bN, e_bT, e_sa, e_sa0, e_tgs, e_tg0, e_tgN, e_tgS, v_eqI, v_neI, v_eqB, v_ltI, v_gtI, v_leI, v_geI, v_bD, v_notB, v_asB, v_asI, v_notD, v_negD, v_addI, v_addD, v_iop, v_subI, v_lenL, v_lenT, v_lenScr, v_int, v_abs, v_tupL, v_tupT, v_lstL, v_lstT, v_itL, v_itT, v_isL, v_eqNil, Option.bind_some, Option.map_some, Option.join_some, List.getElem?_cons_succ, List.getElem?_cons_zero, List.set_cons_succ, List.set_cons_zero, List.length_cons, List.length_nil, if_pos, if_true]
      show (some (PyData.list (cutD (zs.map PyData.int) none (some (M : Int))))).bind _ = _
      rw [e]
      rfl
theorem pick_gen (xs : List Int) (i : Nat) (d : D) (l : List D) (hl : lenD [d] = some (.int l.length)) (hx : ∀ (j : Nat) v, l[j]? = some v → ixA d (.int (j : Int)) = some v) (h : l ≠ []) :
    ∃ v ∈ l, k__law_pick (Wd xs i) [d] = some (v, Wd xs ((i + 1 : Nat) : Int)) := by
  have hp : 0 < l.length := List.length_pos_iff.mpr h
  obtain ⟨r, h0, h1, e⟩ := next_ok xs i (l.length : Int) (by omega)
  obtain ⟨j, rfl⟩ := Int.eq_ofNat_of_zero_le h0
  have hj : j < l.length := by omega
  refine ⟨l[j], List.getElem_mem hj, ?_⟩
  refine bdw (ρ' := [some (Wd xs ((i + 1 : Nat) : Int)), some d]) ?_ rfl
  show m__law_pick [some (Wd xs i), some d] = _
  unfold m__law_pick
  simp only [e_var, e_cst, e_op1, e_op2, e_op3, e_fn, e_anil, e_acons, e_up, e_op1E, e_op2E, e_fnE, e_anilE, e_aconsE, e_fnW, e_tup, e_lst, e_tupE, e_lstE, e_dnil, e_noB, e_toB, e_slc, e_tru, e_truE, e_andT, e_orT, e_notT, e_andTE, e_orTE, e_notTE, e_andV, e_orV, e_ifE, e_ifEE, e_anyI, e_rng, e_rngE, e_zipTI, e_zipI, e_dis1, e_dis2, e_chn, e_nilS, e_asgS, e_asgE, e_tgtS, e_exprS, e_retS, e_retE, e_retN, e_brkS, e_contS, e_parS, e_putS, e_augS, e_augN, e_mutL, e_yesT, e_yesTE, e_bN, e_bT, e_sa, e_sa0, e_tgs, e_tg0, e_tgN, e_tgS, v_eqI, v_neI, v_eqB, v_ltI, v_gtI, v_leI, v_geI, v_bD, v_notB, v_asB, v_asI, v_notD, v_negD, v_addI, v_addD, v_iop, v_subI, v_lenL, v_lenT, v_lenScr, v_int, v_abs, v_tupL, v_tupT, v_lstL, v_lstT, v_itL, v_itT, v_isL, v_eqNil, Option.bind_some, Option.map_some, Option.join_some, List.getElem?_cons_succ, List.getElem?_cons_zero, List.set_cons_succ, List.set_cons_zero, List.length_cons, List.length_nil, if_pos, if_true, hl, e, hx j _ (List.getElem?_eq_getElem hj), e_fnW]
theorem pick_tup (xs : List Int) (i : Nat) (l : List D) (h : l ≠ []) : ∃ v ∈ l, k__law_pick (Wd xs i) [.tuple l] = some (v, Wd xs ((i + 1 : Nat) : Int)) := pick_gen xs i _ l rfl (fun j v => v_ixT) h
theorem pick_list (xs : List Int) (i : Nat) (l : List D) (h : l ≠ []) : ∃ v ∈ l, k__law_pick (Wd xs i) [.list l] = some (v, Wd xs ((i + 1 : Nat) : Int)) := pick_gen xs i _ l rfl (fun j v => v_ixL) h
theorem pick_str (xs : List Int) (i : Nat) (z : Str) (h : z.cps.toList ≠ []) : ∃ c ∈ z.cps.toList, k__law_pick (Wd xs i) [.str z] = some (.str ⟨#[c]⟩, Wd xs ((i + 1 : Nat) : Int)) := by
  obtain ⟨v, hv, e⟩ := pick_gen xs i (.str z) (z.cps.toList.map fun c => .str ⟨#[c]⟩) (by rw [List.length_map, Array.length_toList]; rfl) (fun j v hj => by
    rw [List.getElem?_map] at hj
    obtain ⟨c, hc, rfl⟩ := Option.map_eq_some_iff.mp hj
    show (atI z.cps.toList (j : Int)).map _ = _
    rw [atI_nat hc]
    rfl) (by simpa using h)
  obtain ⟨c, hc, rfl⟩ := List.mem_map.mp hv
  exact ⟨c, hc, e⟩
theorem same_ok : ∀ (n : Nat) (d : D), smD n d → k__law_same n [d, d] = some (.bool true)
  | 0, d, h => by cases d <;> exact absurd h (by simp [smD])
  | n + 1, .tuple ds, h => by
    have hc := smD_cln _ _ h
    obtain ⟨hz, h⟩ := h
    refine bd (ρ' := [some (.tuple ds), some (.tuple ds), none]) ?_
    show m__law_same (k__law_same n) [some (.tuple ds), some (.tuple ds), none] = _
    have e1 : instD .tuple (.tuple ds) = some (.bool true) := v_inst .tuple _ hc
    refine rt (if1 (by simp only [e_var, e_cst, e_op1, e_op2, e_op3, e_fn, e_anil, e_acons, e_up, e_op1E, e_op2E, e_fnE, e_anilE, e_aconsE, e_fnW, e_tup, e_lst, e_tupE, e_lstE, e_dnil, e_noB, e_toB, e_slc, e_tru, e_truE, e_andT, e_orT, e_notT, e_andTE, e_orTE, e_notTE, e_andV, e_orV, e_ifE, e_ifEE, e_anyI, e_rng, e_rngE, e_zipTI, e_zipI, e_dis1, e_dis2, e_chn, e_nilS, e_asgS, e_asgE, e_tgtS, e_exprS, e_retS, e_retE, e_retN, e_brkS, e_contS, e_parS, e_putS, e_augS, e_augN, e_mutL, e_yesT, e_yesTE, e_bN, e_bT, e_sa, e_sa0, e_tgs, e_tg0, e_tgN, e_tgS, v_eqI, v_neI, v_eqB, v_ltI, v_gtI, v_leI, v_geI, v_bD, v_notB, v_asB, v_asI, v_notD, v_negD, v_addI, v_addD, v_iop, v_subI, v_lenL, v_lenT, v_lenScr, v_int, v_abs, v_tupL, v_tupT, v_lstL, v_lstT, v_itL, v_itT, v_isL, v_eqNil, Option.bind_some, Option.map_some, Option.join_some, List.getElem?_cons_succ, List.getElem?_cons_zero, List.set_cons_succ, List.set_cons_zero, List.length_cons, List.length_nil, if_pos, if_true, e1]) (nx (if0 (by simp only [e_var, e_cst, e_op1, e_op2, e_op3, e_fn, e_anil, e_acons, e_up, e_op1E, e_op2E, e_fnE, e_anilE, e_aconsE, e_fnW, e_tup, e_lst, e_tupE, e_lstE, e_dnil, e_noB, e_toB, e_slc, e_tru, e_truE, e_andT, e_orT, e_notT, e_andTE, e_orTE, e_notTE, e_andV, e_orV, e_ifE, e_ifEE, e_anyI, e_rng, e_rngE, e_zipTI, e_zipI, e_dis1, e_dis2, e_chn, e_nilS, e_asgS, e_asgE, e_tgtS, e_exprS, e_retS, e_retE, e_retN, e_brkS, e_contS, e_parS, e_putS, e_augS, e_augN, e_mutL, e_yesT, e_yesTE, e_bN, e_bT, e_sa, e_sa0, e_tgs, e_tg0, e_tgN, e_tgS, v_eqI, v_neI, v_eqB, v_ltI, v_gtI, v_leI, v_geI, v_bD, v_notB, v_asB, v_asI, v_notD, v_negD, v_addI, v_addD, v_iop, v_subI, v_lenL, v_lenT, v_lenScr, v_int, v_abs, v_tupL, v_tupT, v_lstL, v_lstT, v_itL, v_itT, v_isL, v_eqNil, Option.bind_some, Option.map_some, Option.join_some, List.getElem?_cons_succ, List.getElem?_cons_zero, List.set_cons_succ, List.set_cons_zero, List.length_cons, List.length_nil, if_pos, if_true, e1, Bool.not_true, decide_true]; rfl) rfl) ?_))
    rw [e_retS, e_op2, e_lc]
    have hr : rng (acons (fn lenD (acons (var 1) anil)) anil) [some (.tuple ds), some (.tuple ds), none] = some ((List.range ds.length).map fun i : Nat => PyData.int (i : Int)) := by
      simp only [e_var, e_cst, e_op1, e_op2, e_op3, e_fn, e_anil, e_acons, e_up, e_op1E, e_op2E, e_fnE, e_anilE, e_aconsE, e_fnW, e_tup, e_lst, e_tupE, e_lstE, e_dnil, e_noB, e_toB, e_slc, e_tru, e_truE, e_andT, e_orT, e_notT, e_andTE, e_orTE, e_notTE, e_andV, e_orV, e_ifE, e_ifEE, e_anyI, e_rng, e_rngE, e_zipTI, e_zipI, e_dis1, e_dis2, e_chn, e_nilS, e_asgS, e_asgE, e_tgtS, e_exprS, e_retS, e_retE, e_retN, e_brkS, e_contS, e_parS, e_putS, e_augS, e_augN, e_mutL, e_yesT, e_yesTE, e_bN, e_bT, e_sa, e_sa0, e_tgs, e_tg0, e_tgN, e_tgS, v_eqI, v_neI, v_eqB, v_ltI, v_gtI, v_leI, v_geI, v_bD, v_notB, v_asB, v_asI, v_notD, v_negD, v_addI, v_addD, v_iop, v_subI, v_lenL, v_lenT, v_lenScr, v_int, v_abs, v_tupL, v_tupT, v_lstL, v_lstT, v_itL, v_itT, v_isL, v_eqNil, Option.bind_some, Option.map_some, Option.join_some, List.getElem?_cons_succ, List.getElem?_cons_zero, List.set_cons_succ, List.set_cons_zero, List.length_cons, List.length_nil, if_pos, if_true, v_rng1 _ hz]
    rw [hr, Option.bind_some, lc_map (enc := fun i : Nat => PyData.int (i : Int)) (fun _ => false) (fun i => PyData.int (i : Int)) (List.range ds.length) fun i hi => ?_]
    · rw [List.filter_eq_nil_iff.mpr fun _ _ => Bool.false_ne_true]
      rfl
    · have hi' : i < ds.length := List.mem_range.mp hi
      refine ⟨_, rfl, ?_, fun z => nomatch z⟩
      show notT _ [some (.tuple ds), some (.tuple ds), some (.int (i : Int))] = _
      simp only [e_var, e_cst, e_op1, e_op2, e_op3, e_fn, e_anil, e_acons, e_up, e_op1E, e_op2E, e_fnE, e_anilE, e_aconsE, e_fnW, e_tup, e_lst, e_tupE, e_lstE, e_dnil, e_noB, e_toB, e_slc, e_tru, e_truE, e_andT, e_orT, e_notT, e_andTE, e_orTE, e_notTE, e_andV, e_orV, e_ifE, e_ifEE, e_anyI, e_rng, e_rngE, e_zipTI, e_zipI, e_dis1, e_dis2, e_chn, e_nilS, e_asgS, e_asgE, e_tgtS, e_exprS, e_retS, e_retE, e_retN, e_brkS, e_contS, e_parS, e_putS, e_augS, e_augN, e_mutL, e_yesT, e_yesTE, e_bN, e_bT, e_sa, e_sa0, e_tgs, e_tg0, e_tgN, e_tgS, v_eqI, v_neI, v_eqB, v_ltI, v_gtI, v_leI, v_geI, v_bD, v_notB, v_asB, v_asI, v_notD, v_negD, v_addI, v_addD, v_iop, v_subI, v_lenL, v_lenT, v_lenScr, v_int, v_abs, v_tupL, v_tupT, v_lstL, v_lstT, v_itL, v_itT, v_isL, v_eqNil, Option.bind_some, Option.map_some, Option.join_some, List.getElem?_cons_succ, List.getElem?_cons_zero, List.set_cons_succ, List.set_cons_zero, List.length_cons, List.length_nil, if_pos, if_true, v_ixT (List.getElem?_eq_getElem hi'), same_ok n ds[i] (h _ (List.getElem_mem hi')), Bool.not_true]
  | n + 1, .none, h => by
    refine bd (ρ' := [some .none, some .none, none]) ?_
    rfl
  | n + 1, .str s, h => by
    refine bd (ρ' := [some (.str s), some (.str s), none]) ?_
    show m__law_same (k__law_same n) [some (.str s), some (.str s), none] = _
    refine nx (if0 rfl rfl) (nx (if0 rfl rfl) (rt (if1 rfl ?_)))
    rw [e_retS, e_andV]
    have e1 : op1 (instD .str) (var 0) [some (.str s), some (.str s), none] = some (.bool true) := rfl
    rw [e1]
    simp only [e_var, e_cst, e_op1, e_op2, e_op3, e_fn, e_anil, e_acons, e_up, e_op1E, e_op2E, e_fnE, e_anilE, e_aconsE, e_fnW, e_tup, e_lst, e_tupE, e_lstE, e_dnil, e_noB, e_toB, e_slc, e_tru, e_truE, e_andT, e_orT, e_notT, e_andTE, e_orTE, e_notTE, e_andV, e_orV, e_ifE, e_ifEE, e_anyI, e_rng, e_rngE, e_zipTI, e_zipI, e_dis1, e_dis2, e_chn, e_nilS, e_asgS, e_asgE, e_tgtS, e_exprS, e_retS, e_retE, e_retN, e_brkS, e_contS, e_parS, e_putS, e_augS, e_augN, e_mutL, e_yesT, e_yesTE, e_bN, e_bT, e_sa, e_sa0, e_tgs, e_tg0, e_tgN, e_tgS, v_eqI, v_neI, v_eqB, v_ltI, v_gtI, v_leI, v_geI, v_bD, v_notB, v_asB, v_asI, v_notD, v_negD, v_addI, v_addD, v_iop, v_subI, v_lenL, v_lenT, v_lenScr, v_int, v_abs, v_tupL, v_tupT, v_lstL, v_lstT, v_itL, v_itT, v_isL, v_eqNil, Option.bind_some, Option.map_some, Option.join_some, List.getElem?_cons_succ, List.getElem?_cons_zero, List.set_cons_succ, List.set_cons_zero, List.length_cons, List.length_nil, if_pos, if_true, v_eqS, decide_true]
  | n + 1, .int s, h => by
    refine bd (ρ' := [some (.int s), some (.int s), none]) ?_
    show m__law_same (k__law_same n) [some (.int s), some (.int s), none] = _
    refine nx (if0 rfl rfl) (nx (if0 rfl rfl) (nx (if0 rfl rfl) ?_))
    have e1 : instD .int (.int s) = some (.bool true) := rfl
    have e2 : instD .bool (.int s) = some (.bool false) := rfl
    simp only [e_var, e_cst, e_op1, e_op2, e_op3, e_fn, e_anil, e_acons, e_up, e_op1E, e_op2E, e_fnE, e_anilE, e_aconsE, e_fnW, e_tup, e_lst, e_tupE, e_lstE, e_dnil, e_noB, e_toB, e_slc, e_tru, e_truE, e_andT, e_orT, e_notT, e_andTE, e_orTE, e_notTE, e_andV, e_orV, e_ifE, e_ifEE, e_anyI, e_rng, e_rngE, e_zipTI, e_zipI, e_dis1, e_dis2, e_chn, e_nilS, e_asgS, e_asgE, e_tgtS, e_exprS, e_retS, e_retE, e_retN, e_brkS, e_contS, e_parS, e_putS, e_augS, e_augN, e_mutL, e_yesT, e_yesTE, e_bN, e_bT, e_sa, e_sa0, e_tgs, e_tg0, e_tgN, e_tgS, v_eqI, v_neI, v_eqB, v_ltI, v_gtI, v_leI, v_geI, v_bD, v_notB, v_asB, v_asI, v_notD, v_negD, v_addI, v_addD, v_iop, v_subI, v_lenL, v_lenT, v_lenScr, v_int, v_abs, v_tupL, v_tupT, v_lstL, v_lstT, v_itL, v_itT, v_isL, v_eqNil, Option.bind_some, Option.map_some, Option.join_some, List.getElem?_cons_succ, List.getElem?_cons_zero, List.set_cons_succ, List.set_cons_zero, List.length_cons, List.length_nil, if_pos, if_true, e1, e2, decide_true]
  | n + 1, .bool s, h => by
    refine bd (ρ' := [some (.bool s), some (.bool s), none]) ?_
    show m__law_same (k__law_same n) [some (.bool s), some (.bool s), none] = _
    refine nx (if0 rfl rfl) (nx (if0 rfl rfl) (nx (if0 rfl rfl) ?_))
    have e1 : instD .int (.bool s) = some (.bool true) := rfl
    have e2 : instD .bool (.bool s) = some (.bool true) := rfl
    simp only [e_var, e_cst, e_op1, e_op2, e_op3, e_fn, e_anil, e_acons, e_up, e_op1E, e_op2E, e_fnE, e_anilE, e_aconsE, e_fnW, e_tup, e_lst, e_tupE, e_lstE, e_dnil, e_noB, e_toB, e_slc, e_tru, e_truE, e_andT, e_orT, e_notT, e_andTE, e_orTE, e_notTE, e_andV, e_orV, e_ifE, e_ifEE, e_anyI, e_rng, e_rngE, e_zipTI, e_zipI, e_dis1, e_dis2, e_chn, e_nilS, e_asgS, e_asgE, e_tgtS, e_exprS, e_retS, e_retE, e_retN, e_brkS, e_contS, e_parS, e_putS, e_augS, e_augN, e_mutL, e_yesT, e_yesTE, e_bN, e_bT, e_sa, e_sa0, e_tgs, e_tg0, e_tgN, e_tgS, v_eqI, v_neI, v_eqB, v_ltI, v_gtI, v_leI, v_geI, v_bD, v_notB, v_asB, v_asI, v_notD, v_negD, v_addI, v_addD, v_iop, v_subI, v_lenL, v_lenT, v_lenScr, v_int, v_abs, v_tupL, v_tupT, v_lstL, v_lstT, v_itL, v_itT, v_isL, v_eqNil, Option.bind_some, Option.map_some, Option.join_some, List.getElem?_cons_succ, List.getElem?_cons_zero, List.set_cons_succ, List.set_cons_zero, List.length_cons, List.length_nil, if_pos, if_true, e1, e2, decide_true]
  | _ + 1, .list _, h => absurd h (by simp [smD])
  | _ + 1, .dict _, h => absurd h (by simp [smD])
end LX

set_option Elab.async false
set_option linter.all false
set_option maxRecDepth 100000
namespace LX
open PySem PySem.Spec PyProof.Rows L2 PySem.W PL

theorem says_ok (b : Bool) : k__law_says [.bool b, .bool b] = some (.bool true) := by
  refine bd (ρ' := [some (.bool b), some (.bool b)]) ?_
  show m__law_says [some (.bool b), some (.bool b)] = _
  unfold m__law_says
  have e2 : instD .bool (.bool b) = some (.bool true) := rfl
  simp only [e_var, e_cst, e_op1, e_op2, e_op3, e_fn, e_anil, e_acons, e_up, e_op1E, e_op2E, e_fnE, e_anilE, e_aconsE, e_fnW, e_tup, e_lst, e_tupE, e_lstE, e_dnil, e_noB, e_toB, e_slc, e_tru, e_truE, e_andT, e_orT, e_notT, e_andTE, e_orTE, e_notTE, e_andV, e_orV, e_ifE, e_ifEE, e_anyI, e_rng, e_rngE, e_zipTI, e_zipI, e_dis1, e_dis2, e_chn, e_nilS, e_asgS, e_asgE, e_tgtS, e_exprS, e_retS, e_retE, e_retN, e_brkS, e_contS, e_parS, e_putS, e_augS, e_augN, e_mutL, e_yesT, e_yesTE, e_bN, e_bT, e_sa, e_sa0, e_tgs, e_tg0, e_tgN, e_tgS, v_eqI, v_neI, v_eqB, v_ltI, v_gtI, v_leI, v_geI, v_bD, v_notB, v_asB, v_asI, v_notD, v_negD, v_addI, v_addD, v_iop, v_subI, v_lenL, v_lenT, v_lenScr, v_int, v_abs, v_tupL, v_tupT, v_lstL, v_lstT, v_itL, v_itT, v_isL, v_eqNil, Option.bind_some, Option.map_some, Option.join_some, List.getElem?_cons_succ, List.getElem?_cons_zero, List.set_cons_succ, List.set_cons_zero, List.length_cons, List.length_nil, if_pos, if_true, e2, decide_true]
end LX

set_option Elab.async false
set_option linter.all false
set_option maxRecDepth 100000
namespace LX
open PySem PySem.Spec PyProof.Rows L2 PySem.W PL

theorem next_nat (xs : List Int) (i m : Nat) (hm : 0 < m) : ∃ r : Nat, r < m ∧ k__law_next (Wd xs i) [.int (m : Int)] = some (.int (r : Int), Wd xs ((i + 1 : Nat) : Int)) := by
  obtain ⟨r, h0, h1, e⟩ := next_ok xs i (m : Int) (by omega)
  obtain ⟨R, rfl⟩ := Int.eq_ofNat_of_zero_le h0
  exact ⟨R, by omega, e⟩
section
variable {ρ : PL.Env} {j : Nat} {xs : List Int} {i : Nat} {ase : PL.Env → Option (List D × PL.Env)}
theorem fw_next (hj : var j ρ = some (Wd xs i)) (m : Nat) (hm : 0 < m) (ha : ase ρ = some ([.int (m : Int)], ρ)) : ∃ R : Nat, R < m ∧ fnW j k__law_next ase ρ = some (.int (R : Int), ρ.set j (some (Wd xs ((i + 1 : Nat) : Int)))) := by
  obtain ⟨R, hR, e⟩ := next_nat xs i m hm
  refine ⟨R, hR, ?_⟩
  rw [e_fnW, hj, Option.bind_some, ha, Option.bind_some]
  show (var j ρ).bind _ = _
  rw [hj, Option.bind_some]
  show (k__law_next (Wd xs i) [.int (m : Int)]).bind _ = _
  rw [e]
  rfl
theorem fw_pick {v : D} {ds : List D} (hj : var j ρ = some (Wd xs i)) (ha : ase ρ = some (ds, ρ)) (e : k__law_pick (Wd xs i) ds = some (v, Wd xs ((i + 1 : Nat) : Int))) : fnW j k__law_pick ase ρ = some (v, ρ.set j (some (Wd xs ((i + 1 : Nat) : Int)))) := by
  rw [e_fnW, hj, Option.bind_some, ha, Option.bind_some]
  show (var j ρ).bind _ = _
  rw [hj, Option.bind_some]
  show (k__law_pick (Wd xs i) ds).bind _ = _
  rw [e]
  rfl
/-- range(c + next(w, m)) -/
theorem rng_cnext (hj : var j ρ = some (Wd xs i)) (c m : Nat) (hm : 0 < m) (hc : c + m ≤ 16777216) : ∃ R : Nat, R < m ∧ rngE (aconsE (op2E addA (up (cst (.int (c : Int)))) (fnW j k__law_next (aconsE (up (cst (.int (m : Int)))) anilE))) anilE) ρ = some ((List.range (c + R)).map fun i : Nat => PyData.int (i : Int), ρ.set j (some (Wd xs ((i + 1 : Nat) : Int)))) := by
  obtain ⟨R, hR, e⟩ := fw_next (ase := aconsE (up (cst (.int (m : Int)))) anilE) hj m hm rfl
  refine ⟨R, hR, ?_⟩
  rw [e_rngE, e_aconsE, e_op2E, e_up, e_cst, Option.bind_some, Option.bind_some]
  show ((((fnW j k__law_next (aconsE (up (cst (.int (m : Int)))) anilE) ρ).bind _).bind _).bind _) = _
  rw [e, Option.bind_some]
  show (((some (PyData.int ((c : Int) + (R : Int)))).bind fun z => some (z, ρ.set j (some (Wd xs ((i + 1 : Nat) : Int))))).bind _).bind _ = _
  rw [Option.bind_some, Option.bind_some, e_anilE, Option.bind_some, Option.bind_some]
  show (rngD [.int ((c : Int) + (R : Int))]).bind _ = _
  rw [← Int.natCast_add, v_rng1 _ (by omega)]
  rfl
/-- range(next(w, m)) -/
theorem rng_next (hj : var j ρ = some (Wd xs i)) (m : Nat) (hm : 0 < m) (hc : m ≤ 16777216) (ha : ase ρ = some ([.int (m : Int)], ρ)) : ∃ R : Nat, R < m ∧ rngE (aconsE (fnW j k__law_next ase) anilE) ρ = some ((List.range R).map fun i : Nat => PyData.int (i : Int), ρ.set j (some (Wd xs ((i + 1 : Nat) : Int)))) := by
  obtain ⟨R, hR, e⟩ := fw_next hj m hm ha
  refine ⟨R, hR, ?_⟩
  rw [e_rngE, e_aconsE, e, Option.bind_some, e_anilE, Option.bind_some, Option.bind_some]
  show (rngD [.int (R : Int)]).bind _ = _
  rw [v_rng1 _ (by omega)]
  rfl
end
end LX

set_option Elab.async false
set_option linter.all false
set_option maxRecDepth 100000
namespace LX
open PySem PySem.Spec PyProof.Rows L2 PySem.W PL

/-! ### words of tongues -/
abbrev Wrd := Str × List Nat
abbrev wD (p : Wrd) : D := .tuple [.str p.1, tD p.2]
abbrev Tg := List (Str × List Nat)
def al (T : Tg) (t : Str) : List Nat := (glk T t).getD []
structure TOk (T : Tg) : Prop where
  nd : (T.map (·.1)).Nodup
  len : T.length ≤ 3
  ne : T ≠ []
  al : ∀ p ∈ T, p.2.Nodup ∧ p.2 ≠ [] ∧ ∀ c ∈ p.2, 97 ≤ c ∧ c ≤ 101
  key : ∀ p ∈ T, p.1.length ≤ 1000
structure WOk (T : Tg) (W : List Wrd) : Prop where
  len : W.length ≤ 7
  mem : ∀ p ∈ W, p.1 ∈ T.map (·.1) ∧ p.2 ≠ [] ∧ p.2.length ≤ 3 ∧ ∀ c ∈ p.2, c ∈ al T p.1
section
variable {T : Tg} {W : List Wrd}
theorem al_get (h : TOk T) {t : Str} (ht : t ∈ T.map (·.1)) : glk T t = some (al T t) ∧ (t, al T t) ∈ T := by
  obtain ⟨p, hp, rfl⟩ := List.mem_map.mp ht
  have e := g_some h.nd hp
  unfold al
  rw [e]
  exact ⟨rfl, hp⟩
theorem al_len (h : TOk T) {t : Str} (ht : t ∈ T.map (·.1)) : (al T t).length ≤ 5 := by
  obtain ⟨h1, h2, h3⟩ := h.al _ (al_get h ht).2
  have : ∀ l : List Nat, l.Nodup → (∀ c ∈ l, 97 ≤ c ∧ c ≤ 101) → l.length ≤ 5 := fun l hn hc =>
    List.Nodup.length_le_of_subset (l₂ := [97, 98, 99, 100, 101]) hn fun c hm => by
      have := hc c hm
      have : c = 97 ∨ c = 98 ∨ c = 99 ∨ c = 100 ∨ c = 101 := by omega
      simp only [List.mem_cons, List.not_mem_nil, or_false]
      exact this
  exact this _ h1 h3
theorem t_ixd (h : TOk T) {f g : PL.Env → Option D} {ρ : PL.Env} {t : Str} (ht : t ∈ T.map (·.1)) (hf : f ρ = some (gD T tD)) (hg : g ρ = some (.str t)) : op2 ixA f g ρ = some (tD (al T t)) := by
  rw [ev_op2 hf hg]
  refine (gd_ix (κ := Str) T tD t).trans ?_
  rw [(al_get h ht).1]
  rfl
theorem t_idx {l : List Nat} {c : Nat} (h : c ∈ l) : indexB (tD l) (tD [c]) = some (nD (idx l c)) := by
  refine t_index (l := l) (c := c) (i := idx l c) ?_ fun k hk e => ?_
  · rw [List.getElem?_eq_getElem (idx_lt h), idx_at h]
  · have := List.not_of_lt_findIdx (p := fun y => decide (y = c)) (xs := l) hk
    obtain ⟨h1, h2⟩ := List.getElem?_eq_some_iff.mp e
    simp only [h2, decide_true] at this
    exact absurd this (by simp)
theorem key_by_ok {l n : List Nat} (h : ∀ c ∈ n, c ∈ l) : k_key_by [tD l, tD n] = some (uD (n.map (idx l))) := by
  refine Ok.bd1 (Ok.ret ?_ rfl)
  show fn tupleD _ [some (tD l), some (tD n), none] = _
  refine (nx_tupL (lc_okA (enc := fun c => tD [c]) (fun c => nD (idx l c)) n (t_items n) fun c hc => ⟨_, rfl, rfl, ?_⟩)).trans ?_
  · rw [ev_op2 rfl rfl]
    exact t_idx (h c hc)
  · show some (PyData.tuple _) = some (PyData.tuple _)
    rw [List.map_map]
    rfl
theorem law_key_ok {l n : List Nat} (h : ∀ c ∈ n, c ∈ l) : k__law_key [tD l, tD n] = some (uD (n.map (idx l))) := key_by_ok h
theorem lay_strs : ∀ (l : List Str), (∀ x ∈ l, PyData.canLay0 (.str x) = true) → PyData.canLayAll0 (l.map Datum.toD) = true
  | [], _ => rfl
  | x :: xs, h => by
    show (PyData.canLay0 (.str x) && PyData.canLayAll0 (xs.map Datum.toD)) = true
    rw [lay_strs xs fun y hy => h y (.tail _ hy), h x List.mem_cons_self]
    rfl
theorem index_str (l : List Str) (m : Str) (h : m ∈ l) (hk : ∀ x ∈ l, PyData.canLay0 (.str x) = true) : indexB (.tuple (l.map .str)) (.str m) = some (nD (idx l m)) := indexB_gen (α := Str) (by decide) l m h (lay_strs l hk) (hk m h)
def wAt (W : List Wrd) (k : Nat) : Wrd := W.getD k (⟨#[]⟩, [])
theorem w_get {k : Nat} (h : k < W.length) : W[k]? = some (wAt W k) := by
  unfold wAt
  rw [List.getD_eq_getElem?_getD, List.getElem?_eq_getElem h]
  rfl
theorem w_mem {k : Nat} (h : k < W.length) : wAt W k ∈ W := List.mem_of_getElem? (w_get h)
theorem w_ix {f g : PL.Env → Option D} {ρ : PL.Env} {k : Nat} (hk : k < W.length) (hf : f ρ = some (.tuple (W.map wD))) (hg : g ρ = some (nD k)) : op2 ixA f g ρ = some (wD (wAt W k)) := nx_ixT (enc := wD) hf hg (w_get hk)
theorem w_1 {f : PL.Env → Option D} {ρ : PL.Env} {p : Wrd} (hf : f ρ = some (wD p)) : op2 ixA f (cst (.int 0)) ρ = some (.str p.1) := by rw [ev_op2 hf rfl]; rfl
theorem w_2 {f : PL.Env → Option D} {ρ : PL.Env} {p : Wrd} (hf : f ρ = some (wD p)) : op2 ixA f (cst (.int 1)) ρ = some (tD p.2) := by rw [ev_op2 hf rfl]; rfl
/-! ### by tongues -/
abbrev R1 := T3 Nat (Tup Nat) Nat
def row1 (T : Tg) (row : List Str) (W : List Wrd) (k : Nat) : R1 := ⟨idx row (wAt W k).1, ⟨(wAt W k).2.map (idx (al T (wAt W k).1))⟩, k⟩
theorem sort3 {α β : Type} [DecidableEq α] [DatumOrd α] [DecidableEq β] [DatumOrd β] {γ : Type} [DecidableEq γ] [DatumOrd γ] (hd : Datum.depth (T3 α β γ) ≤ 60) (l : List (T3 α β γ)) : sortedA [.list (l.map Datum.toD)] = some (.list ((sortT l).map Datum.toD)) := v_sorted hd (.inl fun _ _ => rfl)
theorem by_tongues_ok (hT : TOk T) (hW : WOk T W) {row : List Str} (hr : ∀ t ∈ T.map (·.1), t ∈ row) (hrk : ∀ t ∈ row, PyData.canLay0 (.str t) = true) : k_by_tongues [gD T tD, .tuple (row.map .str), .tuple (W.map wD)] = some (.tuple ((sortT ((List.range W.length).map (row1 T row W))).map fun r => wD (wAt W r.c))) := by
  have hl := hW.len
  refine Ok.bd1 ?_
  show Ok m_by_tongues [some (gD T tD), some (.tuple (row.map .str)), some (.tuple (W.map wD)), none, none, none, none, none] _
  refine Ok.asg (d := .list []) rfl ?_
  refine Ok.seq (Ok.forSi (enc := nD) (fun n ρ => ∃ x4 x5 x6, ρ = [some (gD T tD), some (.tuple (row.map .str)), some (.tuple (W.map wD)), some (.list (((List.range n).map (row1 T row W)).map Datum.toD)), x4, x5, x6, none]) (List.range W.length) (nx_rng (nx_lenT (enc := wD) (l := W) rfl) (by omega)) (fun i k hk ρ hi => ?_) ⟨_, _, _, rfl⟩) fun ρ1 hi => ?_
  · obtain ⟨x4, x5, x6, rfl⟩ := hi
    obtain ⟨rfl, hk'⟩ := range_get hk
    obtain ⟨m1, _, _, m4⟩ := hW.mem _ (w_mem hk')
    refine ⟨_, rfl, ?_⟩
    refine Ok.nx (ρ1 := [some (gD T tD), some (.tuple (row.map .str)), some (.tuple (W.map wD)), some (.list (((List.range k).map (row1 T row W)).map Datum.toD)), some (nD k), some (.str (wAt W k).1), some (tD (wAt W k).2), none]) ?_ ?_
    · rw [e_tgtS, e_up, w_ix hk' rfl rfl]
      rfl
    · refine Ok.app1 (v := Datum.toD (row1 T row W k)) rfl (nx_tup3 (x := nD (idx row (wAt W k).1)) (y := uD ((wAt W k).2.map (idx (al T (wAt W k).1)))) (z := nD k) (by rw [ev_op2 rfl rfl]; exact index_str row _ (hr _ m1) hrk) (by rw [ev_fn2 (t_ixd hT m1 rfl rfl) rfl]; exact key_by_ok m4) rfl) (by rw [List.length_map, List.length_map, List.length_range]; omega) ⟨rfl, some (nD k), some (.str (wAt W k).1), some (tD (wAt W k).2), ?_⟩
      rw [List.range_succ, List.map_append, List.map_append]
      rfl
  · obtain ⟨x4, x5, x6, rfl⟩ := hi
    rw [List.length_range]
    refine Ok.ret (d := .tuple ((sortT ((List.range W.length).map (row1 T row W))).map fun r => wD (wAt W r.c))) ?_ rfl
    refine nx_tupL (lc_okA (enc := Datum.toD) (fun r : R1 => wD (wAt W r.c)) (sortT ((List.range W.length).map (row1 T row W))) ?_ fun r hr => ⟨_, rfl, rfl, ?_⟩)
    · show (fn sortedA _ _).bind itemsA = _
      rw [ev_fn1 rfl, sort3 (by decide)]
      rfl
    · obtain ⟨k, hk, rfl⟩ := List.mem_map.mp (sortT_mem.mp hr)
      exact w_ix (List.mem_range.mp hk) rfl rfl
/-! ### all in one -/
def whole (T : Tg) : Nat := T.foldl (fun n p => n * p.2.length) 1
theorem size_ok (hT : TOk T) : k_size_of_all [gD T tD] = some (nD (whole T)) := by
  refine Ok.bd1 ?_
  show Ok m_size_of_all [some (gD T tD), none, none] _
  refine Ok.asg (d := nD 1) rfl ?_
  refine Ok.seq (Ok.forS (enc := fun p : Str × List Nat => PyData.str p.1) (fun n ρ => ∃ x2, ρ = [some (gD T tD), some (nD n), x2]) (fun n p => n * p.2.length) T 1 (gd_itemsS T tD (fun p hp => by have := hT.key p hp; omega) (by have := hT.len; omega)) (fun p hp n ρ hi => ?_) ⟨_, rfl⟩) fun ρ1 hi => ?_
  · obtain ⟨x2, rfl⟩ := hi
    have hm : p.1 ∈ T.map (·.1) := List.mem_map_of_mem hp
    have e : al T p.1 = p.2 := by unfold al; rw [g_some hT.nd hp]; rfl
    have hl := al_len hT hm
    refine ⟨_, rfl, Ok.asg1 (d := nD (n * p.2.length)) (nx_mul rfl (by rw [ev_fn1 (t_ixd hT hm rfl rfl), t_len, e]) (by rw [e] at hl; omega)) ⟨rfl, _, rfl⟩⟩
  · obtain ⟨x2, rfl⟩ := hi
    exact Ok.ret rfl rfl
theorem fold_mul : ∀ (T : Tg) (n : Nat), T.foldl (fun n p => n * p.2.length) n = n * (T.map fun p => p.2.length).foldr (· * ·) 1
  | [], n => (Nat.mul_one n).symm
  | p :: T, n => by
    rw [List.foldl_cons, fold_mul T, List.map_cons, List.foldr_cons, Nat.mul_assoc]
theorem dvd_prod : ∀ (l : List Nat) (a : Nat), a ∈ l → a ∣ l.foldr (· * ·) 1
  | b :: l, a, h => by
    rcases List.mem_cons.mp h with rfl | h
    · exact ⟨_, rfl⟩
    · exact Nat.dvd_trans (dvd_prod l a h) ⟨b, Nat.mul_comm _ _⟩
theorem whole_dvd (hT : TOk T) {t : Str} (ht : t ∈ T.map (·.1)) : (al T t).length ∣ whole T := by
  unfold whole
  rw [fold_mul, Nat.one_mul]
  exact dvd_prod _ _ (List.mem_map.mpr ⟨_, (al_get hT ht).2, rfl⟩)
def part (T : Tg) (t : Str) : Nat := whole T / (al T t).length
abbrev R2 := T3 (Tup Nat) Str Nat
def row2 (T : Tg) (W : List Wrd) (k : Nat) : R2 := ⟨⟨(wAt W k).2.map fun c => idx (al T (wAt W k).1) c * part T (wAt W k).1⟩, (wAt W k).1, k⟩
theorem prod_le : ∀ (l : List Nat), (∀ a ∈ l, a ≤ 5) → l.foldr (· * ·) 1 ≤ 5 ^ l.length
  | [], _ => Nat.le_refl _
  | a :: l, h => by
    rw [List.foldr_cons, List.length_cons, Nat.pow_succ, Nat.mul_comm]
    exact Nat.mul_le_mul (prod_le l fun b hb => h b (.tail _ hb)) (h a List.mem_cons_self)
theorem whole_le (hT : TOk T) : whole T ≤ 125 := by
  unfold whole
  rw [fold_mul, Nat.one_mul]
  have := prod_le (T.map fun p => p.2.length) fun a ha => by
    obtain ⟨p, hp, rfl⟩ := List.mem_map.mp ha
    have e : al T p.1 = p.2 := by unfold al; rw [g_some hT.nd hp]; rfl
    have := al_len hT (t := p.1) (List.mem_map_of_mem hp)
    rw [e] at this
    exact this
  rw [List.length_map] at this
  have h2 : 5 ^ T.length ≤ 5 ^ 3 := Nat.pow_le_pow_right (by decide) hT.len
  have : (5 : Nat) ^ 3 = 125 := rfl
  omega
theorem all_in_one_ok (hT : TOk T) (hW : WOk T W) : k_all_in_one [gD T tD, .tuple (W.map wD)] = some (.tuple ((sortT ((List.range W.length).map (row2 T W))).map fun r => wD (wAt W r.c))) := by
  have hl := hW.len
  refine Ok.bd1 ?_
  show Ok m_all_in_one [some (gD T tD), some (.tuple (W.map wD)), none, none, none, none, none, none, none, none] _
  refine Ok.par2 (d := nD (whole T)) (e := .list []) (by rw [ev_fn1 (x := gD T tD) rfl, size_ok hT]) rfl ?_
  refine Ok.seq (Ok.forSi (enc := nD) (fun n ρ => ∃ x4 x5 x6 x7, ρ = [some (gD T tD), some (.tuple (W.map wD)), some (nD (whole T)), some (.list (((List.range n).map (row2 T W)).map Datum.toD)), x4, x5, x6, x7, none, none]) (List.range W.length) (nx_rng (nx_lenT (enc := wD) (l := W) rfl) (by omega)) (fun i k hk ρ hi => ?_) ⟨_, _, _, _, rfl⟩) fun ρ1 hi => ?_
  · obtain ⟨x4, x5, x6, x7, rfl⟩ := hi
    obtain ⟨rfl, hk'⟩ := range_get hk
    obtain ⟨m1, _, _, m4⟩ := hW.mem _ (w_mem hk')
    have hal := al_len hT m1
    have hap : 0 < (al T (wAt W k).1).length := List.length_pos_iff.mpr (hT.al _ (al_get hT m1).2).2.1
    have hwl := whole_le hT
    have hpl : part T (wAt W k).1 ≤ 125 := Nat.le_trans (Nat.div_le_self _ _) hwl
    refine ⟨_, rfl, ?_⟩
    refine Ok.nx (ρ1 := [some (gD T tD), some (.tuple (W.map wD)), some (nD (whole T)), some (.list (((List.range k).map (row2 T W)).map Datum.toD)), some (nD k), some (.str (wAt W k).1), some (tD (wAt W k).2), x7, none, none]) ?_ ?_
    · rw [e_tgtS, e_up, w_ix hk' rfl rfl]
      rfl
    · refine Ok.asg (d := nD (part T (wAt W k).1)) (nx_fdiv rfl (by rw [ev_fn1 (t_ixd hT m1 rfl rfl), t_len]) hap (by omega)) ?_
      refine Ok.app1 (v := Datum.toD (row2 T W k)) rfl (nx_tup3 (x := uD ((wAt W k).2.map fun c => idx (al T (wAt W k).1) c * part T (wAt W k).1)) (y := .str (wAt W k).1) (z := nD k) ?_ rfl rfl) (by rw [List.length_map, List.length_map, List.length_range]; omega) ⟨rfl, some (nD k), some (.str (wAt W k).1), some (tD (wAt W k).2), some (nD (part T (wAt W k).1)), ?_⟩
      · refine (nx_tupL (lc_okA (enc := nD) (fun p => nD (p * part T (wAt W k).1)) ((wAt W k).2.map (idx (al T (wAt W k).1))) ?_ fun p hp => ⟨_, rfl, rfl, nx_mul rfl rfl (by omega)⟩)).trans ?_
        · show (fn k_key_by _ _).bind itemsA = _
          rw [ev_fn2 (t_ixd hT m1 rfl rfl) rfl, key_by_ok m4]
          rfl
        · show some (PyData.tuple _) = some (PyData.tuple _)
          rw [List.map_map, List.map_map]
          rfl
      · rw [List.range_succ, List.map_append, List.map_append]
        rfl
  · obtain ⟨x4, x5, x6, x7, rfl⟩ := hi
    rw [List.length_range]
    refine Ok.ret (d := .tuple ((sortT ((List.range W.length).map (row2 T W))).map fun r => wD (wAt W r.c))) ?_ rfl
    refine nx_tupL (lc_okA (enc := Datum.toD) (fun r : R2 => wD (wAt W r.c)) (sortT ((List.range W.length).map (row2 T W))) ?_ fun r hr => ⟨_, rfl, rfl, ?_⟩)
    · show (fn sortedA _ _).bind itemsA = _
      rw [ev_fn1 rfl, sort3 (by decide)]
      rfl
    · obtain ⟨k, hk, rfl⟩ := List.mem_map.mp (sortT_mem.mp hr)
      exact w_ix (List.mem_range.mp hk) rfl rfl
end
end LX

set_option Elab.async false
set_option linter.all false
set_option maxRecDepth 100000
namespace LX
open PySem PySem.Spec PyProof.Rows L2 PySem.W PL

/-! ### fractions of places -/
abbrev Fr := Nat × Nat
def fr (p q : Nat) : Fr := (p / Nat.gcd p q, q / Nat.gcd p q)
abbrev frD (f : Fr) : D := .tuple [nD f.1, nD f.2]
theorem fr_ok {p q : Nat} (hp : p < 5) (hq : q < 6) (h0 : 0 < q) : k__law_fraction [nD p, nD q] = some (frD (fr p q)) := by
  rcases (by omega : p = 0 ∨ p = 1 ∨ p = 2 ∨ p = 3 ∨ p = 4) with rfl | rfl | rfl | rfl | rfl <;> rcases (by omega : q = 1 ∨ q = 2 ∨ q = 3 ∨ q = 4 ∨ q = 5) with rfl | rfl | rfl | rfl | rfl <;> rfl
def less (f g : Fr) : Bool := decide (f.1 * g.2 < g.1 * f.2)
def frT (p q p' q' : Nat) : Bool := q == 0 || q' == 0 || ((decide (fr p q = fr p' q') == decide (p * q' = p' * q)) && (less (fr p q) (fr p' q') == decide (p * q' < p' * q)))
theorem fr_all : ((List.range 5).all fun p => (List.range 6).all fun q => (List.range 5).all fun p' => (List.range 6).all fun q' => frT p q p' q') = true := by decide +kernel
theorem fr_cmp {p q p' q' : Nat} (hp : p < 5) (hq : q < 6) (hp' : p' < 5) (hq' : q' < 6) (h0 : 0 < q) (h0' : 0 < q') : (decide (fr p q = fr p' q') = decide (p * q' = p' * q)) ∧ (less (fr p q) (fr p' q') = decide (p * q' < p' * q)) := by
  have h := List.all_eq_true.mp fr_all p (List.mem_range.mpr hp)
  have h := List.all_eq_true.mp h q (List.mem_range.mpr hq)
  have h := List.all_eq_true.mp h p' (List.mem_range.mpr hp')
  have h := List.all_eq_true.mp h q' (List.mem_range.mpr hq')
  unfold frT at h
  rw [Bool.or_eq_true, Bool.or_eq_true, Bool.and_eq_true, beq_iff_eq, beq_iff_eq, beq_iff_eq, beq_iff_eq] at h
  rcases h with (h | h) | h
  · omega
  · omega
  · exact h
theorem fr_le : ∀ p < 5, ∀ q < 6, (fr p q).2 < 6 := by decide +kernel
theorem less_ok {f g : Fr} (hf : f.2 < 6) (hg : g.2 < 6) : k__law_less [frD f, frD g] = some (.bool (less f g)) := by
  refine Ok.bd1 (Ok.ret (nx_cv (nx_mul (a := f.1) (b := g.2) rfl rfl (by omega)) (nx_mul (a := g.1) (b := f.2) rfl rfl (by omega)) (PL.ltN _ _)) rfl)
def ahead : List Fr → List Fr → Bool
  | [], [] => false
  | [], _ :: _ => true
  | _ :: _, [] => false
  | x :: xs, y :: ys => if x = y then ahead xs ys else less x y
theorem ahead_end : ∀ (k : Nat) (F G : List Fr), k = min F.length G.length → ahead (F.drop k) (G.drop k) = decide (F.length < G.length)
  | 0, [], [], _ => rfl
  | 0, [], _ :: _, _ => by simp [ahead]
  | 0, _ :: _, [], _ => rfl
  | 0, _ :: _, _ :: _, h => by simp at h
  | k + 1, [], _, h => by simp at h
  | k + 1, _ :: _, [], h => by simp at h
  | k + 1, _ :: F, _ :: G, h => by
    rw [List.drop_succ_cons, List.drop_succ_cons, ahead_end k F G (by simp at h; omega)]
    exact decide_eq_decide.mpr (by simp)
theorem ahead_at {F G : List Fr} {k : Nat} {f g : Fr} (h1 : F[k]? = some f) (h2 : G[k]? = some g) : ahead (F.drop k) (G.drop k) = if f = g then ahead (F.drop (k + 1)) (G.drop (k + 1)) else less f g := by
  obtain ⟨a, rfl⟩ := List.getElem?_eq_some_iff.mp h1
  obtain ⟨b, rfl⟩ := List.getElem?_eq_some_iff.mp h2
  rw [List.drop_eq_getElem_cons a, List.drop_eq_getElem_cons b, ahead]
abbrev flD (F : List Fr) : D := .list (F.map frD)
theorem ahead_ok {F G : List Fr} (hF : ∀ f ∈ F, f.2 < 6) (hG : ∀ f ∈ G, f.2 < 6) (lF : F.length ≤ 1000) (lG : G.length ≤ 1000) : k__law_ahead [flD F, flD G] = some (.bool (ahead F G)) := by
  refine Ok.bd1 ?_
  show Ok m__law_ahead [some (flD F), some (flD G), none] _
  refine Ok.seqX (I := fun ρ => (∃ x, ρ = [some (flD F), some (flD G), x]) ∧ ahead F G = decide (F.length < G.length)) (R := fun v _ => v = .bool (ahead F G)) ?_ (fun ρ1 hi => ?_) fun v ρ1 e => by rw [e]
  · refine Ok.mono (Ok.forX (enc := nD) (fun k ρ => (∃ x, ρ = [some (flD F), some (flD G), x]) ∧ ahead (F.drop k) (G.drop k) = ahead F G) (fun _ => False) (fun v _ => v = .bool (ahead F G)) (List.range (min F.length G.length)) ?_ (fun i k hk ρ hi => ?_) ⟨⟨_, rfl⟩, rfl⟩) fun fl ρ q => ?_
    · refine nx_rng ?_ (by omega)
      rw [ev_fn2 (x := nD F.length) (y := nD G.length) (nx_len rfl) (nx_len rfl)]
      show some (PyData.int (if (G.length : Int) < (F.length : Int) then (G.length : Int) else (F.length : Int))) = _
      split
      · rw [Nat.min_eq_right (by omega)]
      · rw [Nat.min_eq_left (by omega)]
    · obtain ⟨⟨x, rfl⟩, he⟩ := hi
      obtain ⟨rfl, hk'⟩ := range_get hk
      have h1 : F[k]? = some F[k] := List.getElem?_eq_getElem (by omega)
      have h2 : G[k]? = some G[k] := List.getElem?_eq_getElem (by omega)
      rw [ahead_at h1 h2] at he
      have e1 : op2 ixA (var 0) (var 2) [some (flD F), some (flD G), some (nD k)] = some (frD F[k]) := nx_ix rfl rfl h1
      have e2 : op2 ixA (var 1) (var 2) [some (flD F), some (flD G), some (nD k)] = some (frD G[k]) := nx_ix rfl rfl h2
      refine ⟨_, rfl, ?_⟩
      show Ok _ [some (flD F), some (flD G), some (nD k)] _
      refine Ok.if (b := !decide (F[k] = G[k])) (nx_ct e1 e2 (ne_dat (α := Fr) (by decide) _ _)) (fun hb => ?_) fun hb => ?_
      · have hn : ¬ F[k] = G[k] := by simpa using hb
        rw [if_neg hn] at he
        refine Ok.ret (d := .bool (less F[k] G[k])) (by rw [ev_fn2 e1 e2]; exact less_ok (hF _ (List.getElem_mem _)) (hG _ (List.getElem_mem _))) (.inr (.inr (.inr ⟨_, rfl, by rw [he]⟩)))
      · have hy : F[k] = G[k] := by simpa using hb
        rw [if_pos hy] at he
        exact Ok.nil (.inl ⟨rfl, ⟨_, rfl⟩, he⟩)
    · rcases q with ⟨rfl, ⟨h1, h2⟩ | h⟩ | q
      · rw [List.length_range, ahead_end _ _ _ rfl] at h2
        exact .inl ⟨rfl, h1, h2.symm⟩
      · exact h.elim
      · exact .inr q
  · obtain ⟨⟨x, rfl⟩, e⟩ := hi
    rw [e]
    exact Ok.ret (nx_cv (nx_len rfl) (nx_len rfl) (PL.ltN _ _)) rfl
/-- places as fractions and as whole numbers: the same order -/
theorem ahead_scale {q q' u u' w : Nat} (hq : q < 6) (hq' : q' < 6) (h0 : 0 < q) (h0' : 0 < q') (hw : 0 < w) (e : u * q = w) (e' : u' * q' = w) : ∀ (A B : List Nat), (∀ a ∈ A, a < 5) → (∀ b ∈ B, b < 5) →
    ahead (A.map fun a => fr a q) (B.map fun b => fr b q') = listLt (A.map (· * u)) (B.map (· * u')) ∧ ((A.map (fun a => fr a q) = B.map fun b => fr b q') ↔ A.map (· * u) = B.map (· * u'))
  | [], [], _, _ => ⟨rfl, by simp⟩
  | [], _ :: _, _, _ => ⟨rfl, by simp⟩
  | _ :: _, [], _, _ => ⟨rfl, by simp⟩
  | a :: A, b :: B, hA, hB => by
    obtain ⟨i1, i2⟩ := ahead_scale hq hq' h0 h0' hw e e' A B (fun x hx => hA x (.tail _ hx)) fun x hx => hB x (.tail _ hx)
    obtain ⟨c1, c2⟩ := fr_cmp (hA a List.mem_cons_self) hq (hB b List.mem_cons_self) hq' h0 h0'
    have k1 : a * u * (q * q') = a * q' * w := by rw [← e]; ac_rfl
    have k2 : b * u' * (q * q') = b * q * w := by rw [← e']; ac_rfl
    have hqq : 0 < q * q' := Nat.mul_pos h0 h0'
    have eqv : fr a q = fr b q' ↔ a * u = b * u' := by
      rw [decide_eq_decide.mp c1, ← Nat.mul_right_cancel_iff hw, ← Nat.mul_right_cancel_iff (n := a * u) (k := b * u') hqq, k1, k2]
    have ltv : less (fr a q) (fr b q') = decide (a * u < b * u') := by
      rw [c2]
      refine decide_eq_decide.mpr ?_
      rw [← Nat.mul_lt_mul_right hw, ← Nat.mul_lt_mul_right (b := a * u) (c := b * u') hqq, k1, k2]
    constructor
    · show (if fr a q = fr b q' then _ else _) = (if a * u = b * u' then _ else _)
      by_cases h : fr a q = fr b q'
      · rw [if_pos h, if_pos (eqv.mp h)]
        exact i1
      · rw [if_neg h, if_neg fun x => h (eqv.mpr x), ltv]
        rfl
    · rw [List.map_cons, List.map_cons, List.map_cons, List.map_cons, List.cons.injEq, List.cons.injEq, eqv, i2]
/-! ### the law's own line -/
section
variable {T : Tg} {W : List Wrd}
def fl (T : Tg) (W : List Wrd) (k : Nat) : List Fr := ((wAt W k).2.map (idx (al T (wAt W k).1))).map fun p => fr p (al T (wAt W k).1).length
theorem fl_le (hT : TOk T) (hW : WOk T W) {k : Nat} (hk : k < W.length) : (∀ f ∈ fl T W k, f.2 < 6) ∧ (fl T W k).length ≤ 1000 := by
  obtain ⟨m1, _, m3, m4⟩ := hW.mem _ (w_mem hk)
  have hal := al_len hT m1
  refine ⟨fun f hf => ?_, by unfold fl; rw [List.length_map, List.length_map]; omega⟩
  obtain ⟨p, hp, rfl⟩ := List.mem_map.mp hf
  obtain ⟨c, hc, rfl⟩ := List.mem_map.mp hp
  have := idx_lt (m4 c hc)
  exact fr_le _ (by omega) _ (by omega)
theorem part_mul (hT : TOk T) {t : Str} (ht : t ∈ T.map (·.1)) : part T t * (al T t).length = whole T := Nat.div_mul_cancel (whole_dvd hT ht)
theorem whole_pos (hT : TOk T) : 0 < whole T := by
  unfold whole
  rw [fold_mul, Nat.one_mul]
  have : ∀ l : List Nat, (∀ a ∈ l, 0 < a) → 0 < l.foldr (· * ·) 1 := by
    intro l
    induction l with
    | nil => intro _; decide
    | cons a l ih => exact fun h => Nat.mul_pos (h a List.mem_cons_self) (ih fun b hb => h b (.tail _ hb))
  refine this _ fun a ha => ?_
  obtain ⟨p, hp, rfl⟩ := List.mem_map.mp ha
  exact List.length_pos_iff.mpr (hT.al p hp).2.1
/-- whether k is put ahead of an earlier j -/
def putAhead (T : Tg) (W : List Wrd) (k j : Nat) : Bool := ahead (fl T W k) (fl T W j) || (decide (fl T W k = fl T W j) && DatumOrd.lt (wAt W k).1 (wAt W j).1)
theorem put_row (hT : TOk T) (hW : WOk T W) {k j : Nat} (hk : k < W.length) (hj : j < k) : putAhead T W k j = DatumOrd.lt (row2 T W k) (row2 T W j) := by
  obtain ⟨m1, _, _, m4⟩ := hW.mem _ (w_mem hk)
  obtain ⟨n1, _, _, n4⟩ := hW.mem _ (w_mem (k := j) (by omega))
  have lk := al_len hT m1
  have lj := al_len hT n1
  have pk : 0 < (al T (wAt W k).1).length := List.length_pos_iff.mpr (hT.al _ (al_get hT m1).2).2.1
  have pj : 0 < (al T (wAt W j).1).length := List.length_pos_iff.mpr (hT.al _ (al_get hT n1).2).2.1
  obtain ⟨s1, s2⟩ := ahead_scale (q := (al T (wAt W k).1).length) (q' := (al T (wAt W j).1).length) (by omega) (by omega) pk pj (whole_pos hT) (part_mul hT m1) (part_mul hT n1) ((wAt W k).2.map (idx (al T (wAt W k).1))) ((wAt W j).2.map (idx (al T (wAt W j).1))) (fun a ha => by
    obtain ⟨c, hc, rfl⟩ := List.mem_map.mp ha
    have := idx_lt (m4 c hc)
    omega) fun a ha => by
    obtain ⟨c, hc, rfl⟩ := List.mem_map.mp ha
    have := idx_lt (n4 c hc)
    omega
  have ek : (((wAt W k).2.map (idx (al T (wAt W k).1))).map (· * part T (wAt W k).1)) = (row2 T W k).a.items := by rw [List.map_map]; rfl
  have ej : (((wAt W j).2.map (idx (al T (wAt W j).1))).map (· * part T (wAt W j).1)) = (row2 T W j).a.items := by rw [List.map_map]; rfl
  rw [ek, ej] at s1 s2
  have eq1 : (row2 T W k).a = (row2 T W j).a ↔ (row2 T W k).a.items = (row2 T W j).a.items := ⟨congrArg _, fun h => by
    show Tup.mk (row2 T W k).a.items = Tup.mk (row2 T W j).a.items
    rw [h]⟩
  show (ahead (fl T W k) (fl T W j) || (decide (fl T W k = fl T W j) && DatumOrd.lt (wAt W k).1 (wAt W j).1)) = (if (row2 T W k).a = (row2 T W j).a then (if (row2 T W k).b = (row2 T W j).b then decide (k < j) else DatumOrd.lt (row2 T W k).b (row2 T W j).b) else listLt (row2 T W k).a.items (row2 T W j).a.items)
  have irr : ∀ l : List Nat, listLt l l = false := by
    intro l
    induction l with
    | nil => rfl
    | cons a l ih => rw [listLt, if_pos rfl, ih]
  have f1 : ahead (fl T W k) (fl T W j) = listLt (row2 T W k).a.items (row2 T W j).a.items := s1
  have f2 : fl T W k = fl T W j ↔ (row2 T W k).a.items = (row2 T W j).a.items := s2
  rw [f1]
  by_cases h : (row2 T W k).a = (row2 T W j).a
  · rw [if_pos h, decide_eq_true (f2.mpr (eq1.mp h)), eq1.mp h, irr, Bool.false_or, Bool.true_and]
    show DatumOrd.lt (wAt W k).1 (wAt W j).1 = if (wAt W k).1 = (wAt W j).1 then _ else DatumOrd.lt (wAt W k).1 (wAt W j).1
    by_cases h2 : (wAt W k).1 = (wAt W j).1
    · rw [if_pos h2, h2, decide_eq_false (by omega)]
      have := leT_refl (wAt W j).1
      rw [leT_lt] at this
      simpa using this
    · rw [if_neg h2]
  · rw [if_neg h, decide_eq_false fun x => h (eq1.mpr (f2.mp x)), Bool.false_and, Bool.or_false]
/-- the line so far -/
structure Line (T : Tg) (W : List Wrd) (k : Nat) (L : List Nat) : Prop where
  perm : L.Perm (List.range k)
  asc : L.Pairwise fun i j => leT (row2 T W i) (row2 T W j) = true
theorem line_ins (hT : TOk T) (hW : WOk T W) {k a : Nat} {L : List Nat} (hk : k < W.length) (h : Line T W k L) (ha : a ≤ L.length) (h1 : ∀ j, a ≤ j → ∀ v, L[j]? = some v → putAhead T W k v = true) (h2 : a = 0 ∨ ∃ v, L[a - 1]? = some v ∧ putAhead T W k v = false) :
    Line T W (k + 1) (L.take a ++ [k] ++ L.drop a) := by
  have hlt : ∀ v ∈ L, v < k := fun v hv => List.mem_range.mp (h.perm.mem_iff.mp hv)
  refine ⟨?_, ?_⟩
  · rw [List.range_succ]
    have e : (L.take a ++ [k] ++ L.drop a).Perm (L.take a ++ L.drop a ++ [k]) := by
      rw [List.append_assoc, List.append_assoc]
      exact List.Perm.append_left _ List.perm_append_comm
    rw [List.take_append_drop] at e
    exact e.trans (h.perm.append_right _)
  · have hdrop : ∀ v ∈ L.drop a, leT (row2 T W k) (row2 T W v) = true := fun v hv => by
      obtain ⟨j, hj⟩ := List.mem_iff_getElem?.mp hv
      rw [List.getElem?_drop] at hj
      have hm := List.mem_of_getElem? hj
      have := h1 _ (Nat.le_add_right a j) v hj
      rw [put_row hT hW hk (hlt v hm)] at this
      refine leT_of_not fun q => ?_
      rw [leT_lt, this] at q
      exact absurd q (by decide)
    have htake : ∀ v ∈ L.take a, leT (row2 T W v) (row2 T W k) = true := fun v hv => by
      rcases h2 with rfl | ⟨u, hu, hp⟩
      · simp at hv
      · have hm := List.mem_of_getElem? hu
        rw [put_row hT hW hk (hlt u hm)] at hp
        have q1 : leT (row2 T W u) (row2 T W k) = true := by rw [leT_lt, hp]; rfl
        obtain ⟨j, hj⟩ := List.mem_iff_getElem?.mp hv
        rw [List.getElem?_take] at hj
        split at hj
        · rename_i hja
          obtain ⟨b1, rfl⟩ := List.getElem?_eq_some_iff.mp hj
          obtain ⟨b2, rfl⟩ := List.getElem?_eq_some_iff.mp hu
          rcases Nat.lt_or_ge j (a - 1) with hlt' | hge
          · exact leT_trans (List.pairwise_iff_getElem.mp h.asc j (a - 1) b1 b2 hlt') q1
          · have : j = a - 1 := by omega
            subst this
            exact q1
        · cases hj
    rw [List.append_assoc, List.pairwise_append]
    refine ⟨h.asc.sublist (List.take_sublist _ _), ?_, fun x hx y hy => ?_⟩
    · rw [List.singleton_append, List.pairwise_cons]
      exact ⟨hdrop, h.asc.sublist (List.drop_sublist _ _)⟩
    · rcases List.mem_cons.mp hy with rfl | hy
      · exact htake x hx
      · exact leT_trans (htake x hx) (hdrop y hy)
theorem line_done {L : List Nat} (h : Line T W W.length L) : (sortT ((List.range W.length).map (row2 T W))).map (fun r => wD (wAt W r.c)) = L.map fun k => wD (wAt W k) := by
  have e : sortT ((List.range W.length).map (row2 T W)) = L.map (row2 T W) := by
    rw [← sortT_perm (h.perm.map (row2 T W))]
    exact sortT_id (List.pairwise_map.mpr h.asc)
  rw [e, List.map_map]
  rfl
end
end LX

set_option Elab.async false
set_option linter.all false
set_option maxRecDepth 100000
namespace LX
open PySem PySem.Spec PyProof.Rows L2 PySem.W PL

/-! ### writing -/
abbrev Tb := List (List Nat × List Nat)
def sg (M : Tb) (c : Nat) : List Nat := (lk M [c]).getD [c]
def wr (M : Tb) (n : List Nat) : List Nat := (n.map (sg M)).flatten
def MOk (M : Tb) : Prop := ∀ p ∈ M, p.2.length ≤ 2
abbrev mD (M : Tb) : D := dD M tD
theorem lk_mem {β : Type} {C : List (List Nat × β)} {l : List Nat} {v : β} (h : lk C l = some v) : (l, v) ∈ C := by
  unfold lk at h
  obtain ⟨p, hp, rfl⟩ := Option.map_eq_some_iff.mp h
  have h1 := List.find?_some hp
  have e : p.1 = l := of_decide_eq_true h1
  rw [← e]
  exact List.mem_of_find?_eq_some hp
theorem sg_len {M : Tb} (h : MOk M) (c : Nat) : (sg M c).length ≤ 2 := by
  unfold sg
  cases e : lk M [c] with
  | none => exact Nat.le_succ 1
  | some v => exact h _ (lk_mem e)
theorem wr_len {M : Tb} (h : MOk M) : ∀ n : List Nat, (wr M n).length ≤ 2 * n.length
  | [] => Nat.le_refl _
  | c :: n => by
    have := wr_len h n
    have := sg_len h c
    show ((sg M c) ++ wr M n).length ≤ _
    rw [List.length_append, List.length_cons]
    omega
theorem written_ok {M : Tb} (h : MOk M) {n : List Nat} (hn : n.length ≤ 1000) : k_written_in [mD M, tD n] = some (tD (wr M n)) := by
  refine Ok.bd1 (Ok.ret (d := tD (wr M n)) ?_ rfl)
  refine (ev_op2 (x := .str "") (y := .list ((n.map (sg M)).map tD)) rfl ?_).trans (t_join _ (by have := wr_len h n; unfold wr at this; omega))
  refine lc_okAM (enc := fun c => tD [c]) (sg M) tD n (t_items n) fun c hc => ⟨_, rfl, rfl, ?_⟩
  refine (dD_get2 M tD [c] (tD [c])).trans ?_
  unfold sg
  cases lk M [c] <;> rfl
theorem law_written_ok {M : Tb} (h : MOk M) {n : List Nat} (hn : n.length ≤ 1000) : k__law_written [mD M, tD n] = some (tD (wr M n)) := by
  refine Ok.bd1 (Ok.ret (d := tD (wr M n)) ?_ rfl)
  refine (ev_op2 (x := .str "") (y := .list ((n.map (sg M)).map tD)) rfl ?_).trans (t_join _ (by have := wr_len h n; unfold wr at this; omega))
  refine lc_okAM (enc := fun c => tD [c]) (sg M) tD n (t_items n) fun c hc => ⟨_, rfl, rfl, ?_⟩
  have hi : tru (op2 (bD inB) (var 2) (var 0)) [some (mD M), some (tD n), some (tD [c])] = some (lk M [c]).isSome := nx_in rfl rfl (dD_in M tD [c])
  show ifE (tru (op2 (bD inB) (var 2) (var 0))) (op2 ixA (var 0) (var 2)) (var 2) [some (mD M), some (tD n), some (tD [c])] = _
  unfold sg
  cases e : lk M [c] with
  | none =>
    rw [e] at hi
    exact nx_ifE0 hi rfl
  | some v =>
    rw [e] at hi
    refine nx_ifE1 hi ?_
    rw [ev_op2 rfl rfl]
    refine (dD_ix M tD [c]).trans ?_
    rw [e]
    rfl
abbrev TT := List (Str × Tb)
def tb (X : TT) (t : Str) : Tb := (glk X t).getD []
abbrev xD (X : TT) : D := gD X mD
structure XOk (T : Tg) (X : TT) : Prop where
  keys : X.map (·.1) = T.map (·.1)
  val : ∀ q ∈ X, MOk q.2
section
variable {T : Tg} {W : List Wrd} {X : TT}
theorem tb_get (hT : TOk T) (hX : XOk T X) {t : Str} (ht : t ∈ T.map (·.1)) : glk X t = some (tb X t) ∧ (t, tb X t) ∈ X := by
  have ht' := ht
  rw [← hX.keys] at ht'
  obtain ⟨p, hp, rfl⟩ := List.mem_map.mp ht'
  have e := g_some (by rw [hX.keys]; exact hT.nd) hp
  unfold tb
  rw [e]
  exact ⟨rfl, hp⟩
theorem tb_ok (hT : TOk T) (hX : XOk T X) {t : Str} (ht : t ∈ T.map (·.1)) : MOk (tb X t) := hX.val _ (tb_get hT hX ht).2
def told (X : TT) (p : Wrd) : List Nat := wr (tb X p.1) p.2
theorem told_len (hT : TOk T) (hW : WOk T W) (hX : XOk T X) {p : Wrd} (hp : p ∈ W) : (told X p).length ≤ 6 := by
  have := wr_len (tb_ok hT hX (hW.mem _ hp).1) p.2
  have := (hW.mem _ hp).2.2.1
  unfold told
  omega
theorem get_tb (hT : TOk T) (hX : XOk T X) {t : Str} (ht : t ∈ T.map (·.1)) {f g : PL.Env → Option D} {ρ : PL.Env} (hf : f ρ = some (xD X)) (hg : g ρ = some (.str t)) : op3 get2 f g dnil ρ = some (mD (tb X t)) := by
  rw [e_op3, hf, Option.bind_some, hg, Option.bind_some]
  show get2 (xD X) (.str t) (.dict []) = _
  refine (gd_get2 (κ := Str) X mD t (.dict [])).trans ?_
  rw [(tb_get hT hX ht).1]
  rfl
abbrev R3 := T3 Str Str Str
def row3 (X : TT) (p : Wrd) : R3 := ⟨tx (told X p), p.1, tx p.2⟩
def byW (X : TT) (W : List Wrd) : D := .tuple ((sortT (W.map (row3 X))).map fun r => .tuple [.str r.b, .str r.c])
theorem w_items : itemsA (.tuple (W.map wD)) = some (W.map wD) := rfl
theorem by_writing_ok (hT : TOk T) (hW : WOk T W) (hX : XOk T X) : k_by_writing [xD X, .tuple (W.map wD)] = some (byW X W) := by
  refine Ok.bd1 ?_
  show Ok m_by_writing [some (xD X), some (.tuple (W.map wD)), none, none, none, none] _
  refine Ok.asg (d := .list ((W.map (row3 X)).map Datum.toD)) ?_ ?_
  · refine lc_okAM (enc := wD) (row3 X) Datum.toD W rfl fun p hp => ⟨_, rfl, rfl, ?_⟩
    have m := hW.mem _ hp
    refine nx_tup3 (x := tD (told X p)) (y := .str p.1) (z := tD p.2) ?_ rfl rfl
    rw [ev_fn2 (get_tb hT hX m.1 rfl rfl) (y := tD p.2) rfl]
    exact written_ok (tb_ok hT hX m.1) (by have := m.2.2.1; omega)
  · refine Ok.ret (d := byW X W) (nx_tupL ?_) rfl
    refine lc_okA (enc := Datum.toD) (fun r : R3 => PyData.tuple [.str r.b, .str r.c]) (sortT (W.map (row3 X))) ?_ fun r hr => ⟨_, rfl, rfl, nx_tup2 rfl rfl⟩
    show (fn sortedA _ _).bind itemsA = _
    rw [ev_fn1 rfl, sort3 (by decide)]
    rfl
/-! ### clashes -/
def txt (X : TT) (W : List Wrd) (k : Nat) : Str := tx (told X (wAt W k))
def lotsT (X : TT) (W : List Wrd) (n : Nat) : List (Str × List Nat) := lots (txt X W) (List.range n)
abbrev many (l : List (List Nat)) : List (Tup Nat) := (l.filter fun x => decide (1 < x.length)).map fun x => ⟨x⟩
theorem many_tup (l : List (List Nat)) : ∀ x ∈ many l, tupN (Datum.toD x) = true := fun x hx => by
  obtain ⟨y, hy, rfl⟩ := List.mem_map.mp hx
  have h1 : 1 < y.length := of_decide_eq_true (List.mem_filter.mp hy).2
  cases y with
  | nil => exact absurd h1 (by decide)
  | cons a y => rfl
def clashD (X : TT) (W : List Wrd) : D := .tuple ((sortT (many ((sset ((List.range W.length).map (txt X W))).map fun t => (List.range W.length).filter fun k => decide (txt X W k = t)))).map Datum.toD)
theorem clashes_ok (hT : TOk T) (hW : WOk T W) (hX : XOk T X) : k_clashes_of [xD X, .tuple (W.map wD)] = some (clashD X W) := by
  have hl := hW.len
  refine Ok.bd1 ?_
  show Ok m_clashes_of [some (xD X), some (.tuple (W.map wD)), none, none, none, none, none] _
  refine Ok.asg (d := .dict []) rfl ?_
  refine Ok.seq (Ok.forSi (enc := nD) (fun n ρ => ∃ x3 x4 x5 x6, ρ = [some (xD X), some (.tuple (W.map wD)), some (gD (lotsT X W n) uD), x3, x4, x5, x6]) (List.range W.length) (nx_rng (nx_lenT (enc := wD) (l := W) rfl) (by omega)) (fun i k hk ρ hi => ?_) ⟨_, _, _, _, rfl⟩) fun ρ1 hi => ?_
  · obtain ⟨x3, x4, x5, x6, rfl⟩ := hi
    obtain ⟨rfl, hk'⟩ := range_get hk
    have m := hW.mem _ (w_mem hk')
    refine ⟨_, rfl, ?_⟩
    refine Ok.nx (ρ1 := [some (xD X), some (.tuple (W.map wD)), some (gD (lotsT X W k) uD), some (nD k), some (.str (wAt W k).1), some (tD (wAt W k).2), x6]) ?_ ?_
    · rw [e_tgtS, e_up, w_ix hk' rfl rfl]
      rfl
    · refine Ok.asg (d := tD (told X (wAt W k))) ?_ ?_
      · rw [ev_fn2 (get_tb hT hX m.1 rfl rfl) (y := tD (wAt W k).2) rfl]
        exact written_ok (tb_ok hT hX m.1) (by have := m.2.2.1; omega)
      · have hlen : (lotsT X W k).length ≤ 1000000 := by
          have := lots_len (txt X W) (List.range k)
          rw [List.length_range] at this
          unfold lotsT
          omega
        refine Ok.put (d := gD (lotsT X W k) uD) (k := .str (txt X W k)) (v := uD ((glk (lotsT X W k) (txt X W k)).getD [] ++ [k])) (d' := gD (lotsT X W (k + 1)) uD) rfl ?_ rfl ?_ ⟨rfl, _, _, _, _, rfl⟩
        · refine (nx_catT (xs := ((glk (lotsT X W k) (txt X W k)).getD []).map nD) (ys := [nD k]) ?_ (nx_tup1 rfl) ?_).trans ?_
          · rw [e_op3]
            refine (gd_get2 (κ := Str) (lotsT X W k) uD (txt X W k) (.tuple [])).trans ?_
            cases glk (lotsT X W k) (txt X W k) <;> rfl
          · rw [List.length_map]
            have hq : ((glk (lotsT X W k) (txt X W k)).getD []).length ≤ k := by
              show ((glk (lots (txt X W) (List.range k)) (txt X W k)).getD []).length ≤ k
              rw [lots_glk]
              split
              · have := List.length_filter_le (fun y => decide (txt X W y = txt X W k)) (List.range k)
                rw [List.length_range] at this
                exact this
              · exact Nat.zero_le _
            show _ + 1 ≤ _
            omega
          · show some (PyData.tuple _) = some (PyData.tuple _)
            rw [List.map_append]
            rfl
        · refine (gd_put (κ := Str) (lotsT X W k) uD (txt X W k) _ hlen).trans ?_
          unfold lotsT
          rw [lots_put, ← List.range_succ]
  · obtain ⟨x3, x4, x5, x6, rfl⟩ := hi
    rw [List.length_range]
    refine Ok.ret (d := clashD X W) (nx_tupL ?_) rfl
    have hk : ∀ p ∈ lotsT X W W.length, p.1.length ≤ 16777216 := fun p hp => by
      have : p.1 ∈ (lotsT X W W.length).map (·.1) := List.mem_map_of_mem hp
      unfold lotsT at this
      rw [lots_keys, uniq_mem] at this
      rcases this with h | h
      · cases h
      · obtain ⟨k, hk, e⟩ := List.mem_map.mp h
        rw [← e]
        show (tx _).length ≤ _
        rw [tx_len]
        have := told_len hT hW hX (w_mem (List.mem_range.mp hk))
        omega
    have hz : (lotsT X W W.length).length ≤ 16777216 := by
      have := lots_len (txt X W) (List.range W.length)
      rw [List.length_range] at this
      unfold lotsT
      omega
    have hix : ∀ p ∈ lotsT X W W.length, ∀ {f g : PL.Env → Option D} {ρ : PL.Env}, f ρ = some (gD (lotsT X W W.length) uD) → g ρ = some (.str p.1) → op2 ixA f g ρ = some (uD p.2) := fun p hp f g ρ hf hg => by
      rw [ev_op2 hf hg]
      refine (gd_ix (κ := Str) (lotsT X W W.length) uD p.1).trans ?_
      have q : glk (lotsT X W W.length) p.1 = some p.2 := g_some (lots_nodup _ _) hp
      rw [q]
      rfl
    have e1 : lc (anyI (var 2)) [6] (bN 6) (tru (op2 (bD gtB) (fn lenD (acons (op2 ixA (var 2) (var 6)) anil)) (cst (.int 1)))) (op2 ixA (var 2) (var 6)) [some (xD X), some (.tuple (W.map wD)), some (gD (lotsT X W W.length) uD), x3, x4, x5, x6] = some (.list (((lotsT X W W.length).filter fun p => decide (1 < p.2.length)).map fun p => uD p.2)) := by
      refine lc_ok (enc := fun p : Str × List Nat => PyData.str p.1) (fun p => decide (1 < p.2.length)) (fun p => uD p.2) (lotsT X W W.length) (gd_itemsS _ uD hk hz) fun p hp => ⟨_, rfl, ?_, fun _ => hix p hp rfl rfl⟩
      exact nx_gt (nx_lenT (enc := nD) (l := p.2) (hix p hp rfl rfl)) rfl
    have e2 : ((lotsT X W W.length).filter fun p => decide (1 < p.2.length)).map (fun p => uD p.2) = (many ((lotsT X W W.length).map (·.2))).map Datum.toD := by
      show _ = List.map _ (List.map _ (List.filter _ (List.map _ _)))
      rw [List.filter_map, List.map_map, List.map_map]
      rfl
    rw [e2] at e1
    rw [ev_fn1 e1]
    refine (v_sorted (by decide) (.inl (many_tup _))).trans ?_
    have e3 : sortT (many ((lotsT X W W.length).map (·.2))) = sortT (many ((sset ((List.range W.length).map (txt X W))).map fun t => (List.range W.length).filter fun k => decide (txt X W k = t))) := sortT_perm (((lots_perm (txt X W) (List.range W.length)).filter _).map _)
    rw [e3]
end
end LX

set_option Elab.async false
set_option linter.all false
set_option maxRecDepth 100000
namespace LX
open PySem PySem.Spec PyProof.Rows L2 PySem.W PL

/-! ### all names -/
def nxt (L : List Nat) (N : List (List Nat)) : List (List Nat) := N.flatMap fun n => L.map fun c => n ++ [c]
def lvl (L : List Nat) : Nat → List (List Nat)
  | 0 => [[]]
  | k + 1 => nxt L (lvl L k)
def lvls (L : List Nat) (k : Nat) : List (List Nat) := (List.range k).flatMap fun j => lvl L (j + 1)
theorem lvls_succ (L : List Nat) (k : Nat) : lvls L (k + 1) = lvls L k ++ lvl L (k + 1) := by
  unfold lvls
  rw [List.range_succ, List.flatMap_append]
  simp
theorem nxt_len (L : List Nat) : ∀ N : List (List Nat), (nxt L N).length = N.length * L.length
  | [] => by simp [nxt]
  | n :: N => by
    show ((L.map fun c => n ++ [c]) ++ nxt L N).length = _
    rw [List.length_append, List.length_map, nxt_len L N, List.length_cons, Nat.add_mul, Nat.one_mul, Nat.add_comm]
theorem lvl_len {L : List Nat} (h : L.length ≤ 3) : ∀ k, (lvl L k).length ≤ 3 ^ k
  | 0 => Nat.le_refl _
  | k + 1 => by
    show (nxt L (lvl L k)).length ≤ _
    rw [nxt_len, Nat.pow_succ]
    exact Nat.mul_le_mul (lvl_len h k) h
theorem lvl_len4 {L : List Nat} (h : L.length ≤ 3) {k : Nat} (hk : k ≤ 4) : (lvl L k).length ≤ 81 :=
  Nat.le_trans (lvl_len h k) (Nat.le_trans (Nat.pow_le_pow_right (by decide) hk) (by decide))
theorem lvl_size (L : List Nat) : ∀ (k : Nat) (n : List Nat), n ∈ lvl L k → n.length = k
  | 0, n, h => by rw [List.mem_singleton.mp h]; rfl
  | k + 1, n, h => by
    obtain ⟨m, hm, h⟩ := List.mem_flatMap.mp h
    obtain ⟨c, _, rfl⟩ := List.mem_map.mp h
    rw [List.length_append, lvl_size L k m hm]
    rfl
theorem lvls_len {L : List Nat} (h : L.length ≤ 3) : ∀ k, k ≤ 4 → (lvls L k).length ≤ 81 * k
  | 0, _ => by simp [lvls]
  | k + 1, hk => by
    rw [lvls_succ, List.length_append]
    have := lvls_len h k (by omega)
    have := lvl_len4 h hk
    omega
abbrev utD (L : List Nat) : D := .tuple (L.map fun c => tD [c])
abbrev ltD (N : List (List Nat)) : D := .list (N.map tD)
theorem texts_ok {L : List Nat} (h : L.length ≤ 3) {k : Nat} (hk : k ≤ 4) : k_texts_of [utD L, nD k] = some (ltD (lvl L k)) := by
  refine Ok.bd1 ?_
  show Ok m_texts_of [some (utD L), some (nD k), none, none, none, none] _
  refine Ok.asg (d := ltD (lvl L 0)) rfl ?_
  refine Ok.seq (Ok.forSi (enc := nD) (fun n ρ => ∃ x3, ρ = [some (utD L), some (nD k), some (ltD (lvl L n)), x3, none, none]) (List.range k) (nx_rng rfl (by omega)) (fun i j hj ρ hi => ?_) ⟨_, rfl⟩) fun ρ1 hi => ?_
  · obtain ⟨x3, rfl⟩ := hi
    obtain ⟨rfl, hj'⟩ := range_get hj
    refine ⟨_, rfl, Ok.asg1 (d := ltD (lvl L (j + 1))) ?_ ⟨rfl, _, rfl⟩⟩
    have hlen := lvl_len4 h (k := j + 1) (by omega)
    refine lc2_okM (enc := tD) (enc2 := fun c => tD [c]) (fun _ => L) (fun n c => n ++ [c]) tD (lvl L j) rfl (fun n hn => ⟨_, rfl, rfl, fun c hc => ⟨_, rfl, ?_⟩⟩) (by show (nxt L (lvl L j)).length ≤ _; have : (nxt L (lvl L j)).length ≤ 81 := hlen; omega)
    have := lvl_size L j n hn
    rw [ev_op2 rfl rfl]
    exact t_add n [c] (by rw [this]; show j + 1 ≤ _; omega)
  · obtain ⟨x3, rfl⟩ := hi
    rw [List.length_range]
    exact Ok.ret rfl rfl
/-! ### pairs written alike -/
def mn (a b : List Nat) : List Nat := if b < a then b else a
def mx2 (a b : List Nat) : List Nat := if a < b then b else a
theorem mn_comm (a b : List Nat) : mn a b = mn b a := by
  unfold mn
  rcases l_tri a b with h | rfl | h
  · rw [if_pos h, if_neg fun x => absurd (List.lt_trans h x) (List.lt_irrefl _)]
  · rfl
  · rw [if_pos h, if_neg fun x => absurd (List.lt_trans h x) (List.lt_irrefl _)]
theorem mx_comm (a b : List Nat) : mx2 a b = mx2 b a := by
  unfold mx2
  rcases l_tri a b with h | rfl | h
  · rw [if_pos h, if_neg fun x => absurd (List.lt_trans h x) (List.lt_irrefl _)]
  · rfl
  · rw [if_pos h, if_neg fun x => absurd (List.lt_trans h x) (List.lt_irrefl _)]
theorem min2_ok (a b : List Nat) : min2D [tD a, tD b] = some (tD (mn a b)) := by
  show some (PyData.str (if ltTx (tx b) (tx a) = true then tx b else tx a)) = some (PyData.str (tx (mn a b)))
  unfold mn
  have e : ltTx (tx b) (tx a) = decide (b < a) := rfl
  rw [e]
  by_cases h : b < a
  · rw [if_pos h, if_pos (decide_eq_true h)]
  · rw [if_neg h, if_neg (by simpa using h)]
theorem max2_ok (a b : List Nat) : max2D [tD a, tD b] = some (tD (mx2 a b)) := by
  show some (PyData.str (if ltTx (tx a) (tx b) = true then tx b else tx a)) = some (PyData.str (tx (mx2 a b)))
  unfold mx2
  have e : ltTx (tx a) (tx b) = decide (a < b) := rfl
  rw [e]
  by_cases h : a < b
  · rw [if_pos h, if_pos (decide_eq_true h)]
  · rw [if_neg h, if_neg (by simpa using h)]
abbrev R4 := T3 Nat Str Str
def row4 (o x : List Nat) : R4 := ⟨o.length + x.length, tx (mn o x), tx (mx2 o x)⟩
abbrev Stt := List (List Nat) × List R4
def wkey (M : Tb) (n : List Nat) : Str := tx (wr M n)
def alike2 (M : Tb) (P : List (List Nat)) (x : List Nat) : List (List Nat) := P.filter fun y => decide (wkey M y = wkey M x)
def cstep (M : Tb) (s : Stt) (x : List Nat) : Stt := (s.1 ++ [x], s.2 ++ (alike2 M s.1 x).map fun o => row4 o x)
theorem cstep_fst (M : Tb) : ∀ (E : List (List Nat)) (s : Stt), (E.foldl (cstep M) s).1 = s.1 ++ E
  | [], s => (List.append_nil _).symm
  | x :: E, s => by
    rw [List.foldl_cons, cstep_fst M E]
    show s.1 ++ [x] ++ E = _
    rw [List.append_assoc]
    rfl
def SOk (s : Stt) : Prop := s.2.length ≤ s.1.length * s.1.length
theorem cstep_ok (M : Tb) {s : Stt} (h : SOk s) (x : List Nat) : SOk (cstep M s x) := by
  unfold SOk at h ⊢
  show (s.2 ++ (alike2 M s.1 x).map fun o => row4 o x).length ≤ (s.1 ++ [x]).length * (s.1 ++ [x]).length
  have := List.length_filter_le (fun y => decide (wkey M y = wkey M x)) s.1
  have e : (s.1.length + 1) * (s.1.length + 1) = s.1.length * s.1.length + 2 * s.1.length + 1 := by
    rw [Nat.add_mul, Nat.mul_add]; omega
  rw [List.length_append, List.length_map, List.length_append, List.length_singleton, e]
  unfold alike2
  omega
theorem cfold_ok (M : Tb) : ∀ (E : List (List Nat)) (s : Stt), SOk s → SOk (E.foldl (cstep M) s)
  | [], s, h => h
  | x :: E, s, h => cfold_ok M E _ (cstep_ok M h x)
def st (M : Tb) (L : List Nat) (k : Nat) : Stt := (lvls L k).foldl (cstep M) ([], [])
theorem st_fst (M : Tb) (L : List Nat) (k : Nat) : (st M L k).1 = lvls L k := (cstep_fst M _ _).trans (List.nil_append _)
abbrev rsD (R : List R4) : D := .list (R.map Datum.toD)
abbrev metD (M : Tb) (P : List (List Nat)) : D := gD (lots (wkey M) P) ltD
def resD (R : List R4) : D := match R with
  | [] => .tuple [.str "yes"]
  | r :: R => .tuple [.str "no", .tuple [.str (minOf r R).b, .str (minOf r R).c]]
theorem met_get {M : Tb} {P : List (List Nat)} (x : List Nat) : get2 (metD M P) (tD (wr M x)) (.list []) = some (ltD (alike2 M P x)) := by
  refine (gd_get2 (κ := Str) (lots (wkey M) P) ltD (wkey M x) (.list [])).trans ?_
  rw [lots_glk]
  split
  · rfl
  · rename_i h
    have e : alike2 M P x = [] := List.filter_eq_nil_iff.mpr fun y hy q => h (of_decide_eq_true q ▸ List.mem_map_of_mem hy)
    rw [e]
    rfl
theorem met_put {M : Tb} {P : List (List Nat)} (x : List Nat) (h : P.length ≤ 1000) : putD (metD M P) (tD (wr M x)) (ltD (alike2 M P x ++ [x])) = some (metD M (P ++ [x])) := by
  have hl := lots_len (wkey M) P
  refine (gd_put (κ := Str) (lots (wkey M) P) ltD (wkey M x) _ (by omega)).trans ?_
  have e0 : metD M (P ++ [x]) = gD (lots (wkey M) (P ++ [x])) ltD := rfl
  rw [e0, ← lots_put (wkey M) P x]
  have e : (glk (lots (wkey M) P) (wkey M x)).getD [] = alike2 M P x := by
    rw [lots_glk]
    split
    · rfl
    · rename_i h
      have e : alike2 M P x = [] := List.filter_eq_nil_iff.mpr fun y hy q => h (of_decide_eq_true q ▸ List.mem_map_of_mem hy)
      rw [e]
      rfl
  rw [e]
theorem res_ok {ρ : PL.Env} {f : PL.Env → Option D} {R : List R4} (hf : f ρ = some (rsD R)) : ifE (tru (op2 (bD neB) f (lst anil))) (tup (acons (cst (.str "no")) (acons (slc (fn minDD (acons f anil)) (toB (cst (.int 1))) noB) anil))) (tup (acons (cst (.str "yes")) anil)) ρ = some (resD R) := by
  have t : tru (op2 (bD neB) f (lst anil)) ρ = some (!decide (R = [])) := nx_ct hf rfl (ne_nilD (by decide) R)
  cases R with
  | nil => exact nx_ifE0 t rfl
  | cons r R =>
    refine nx_ifE1 t (nx_tup2 rfl ?_)
    rw [e_slc, ev_fn1 hf, v_minL (by decide)]
    rfl
theorem both_len {M : Tb} {L : List Nat} (h : L.length ≤ 3) {k j : Nat} (hk : k < 4) (hj : j ≤ 81) : (((lvl L (k + 1)).take j).foldl (cstep M) (st M L k)).1.length ≤ 324 ∧ SOk (((lvl L (k + 1)).take j).foldl (cstep M) (st M L k)) := by
  refine ⟨?_, cfold_ok _ _ _ (cfold_ok _ _ _ (Nat.zero_le _))⟩
  rw [cstep_fst, st_fst, List.length_append, List.length_take]
  have := lvls_len h k (by omega)
  omega
theorem rs_snoc {s : List R4} {l : List (List Nat)} {i : Nat} {o n : List Nat} (h : l[i]? = some o) : rsD (s ++ (l.take (i + 1)).map fun o => row4 o n) = .list ((s ++ (l.take i).map fun o => row4 o n).map Datum.toD ++ [Datum.toD (row4 o n)]) := by
  rw [List.take_succ, h]
  simp only [rsD, List.map_append, List.append_assoc]
  rfl
theorem is_clean_ok {M : Tb} (hM : MOk M) {L : List Nat} (h : L.length ≤ 3) : k_is_clean [mD M, utD L] = some (resD (st M L 4).2) := by
  refine Ok.bd1 ?_
  show Ok m_is_clean [some (mD M), some (utD L), none, none, none, none, none, none] _
  refine Ok.par2 (d := .dict []) (e := .list []) rfl rfl ?_
  let I : Stt → PL.Env → Prop := fun s ρ => ∃ x4 x5 x6 x7, ρ = [some (mD M), some (utD L), some (metD M s.1), some (rsD s.2), x4, x5, x6, x7]
  refine Ok.seq (Ok.forSi (enc := fun k : Nat => nD (k + 1)) (fun k ρ => I (st M L k) ρ) (List.range 4) rfl (fun i k hk ρ hi => ?_) ⟨_, _, _, _, rfl⟩) fun ρ1 hi => ?_
  · obtain ⟨rfl, hk⟩ := range_get hk
    obtain ⟨x4, x5, x6, x7, rfl⟩ := hi
    refine ⟨_, rfl, ?_⟩
    show Ok _ [some (mD M), some (utD L), some (metD M (st M L k).1), some (rsD (st M L k).2), some (nD (k + 1)), x5, x6, x7] _
    have e : st M L (k + 1) = (lvl L (k + 1)).foldl (cstep M) (st M L k) := by
      unfold st
      rw [lvls_succ, List.foldl_append]
    rw [e]
    refine Ok.mono (Ok.forSf (enc := tD) (fun s ρ => ∃ x5 x6 x7, ρ = [some (mD M), some (utD L), some (metD M s.1), some (rsD s.2), some (nD (k + 1)), x5, x6, x7]) (cstep M) (st M L k) (lvl L (k + 1)) ?_ (fun j n hn ρ hi => ?_) ⟨_, _, _, rfl⟩) fun fl ρ q => ⟨q.1, ?_⟩
    · show (fn k_texts_of _ _).bind itemsA = _
      rw [ev_fn2 (x := utD L) (y := nD (k + 1)) rfl rfl, texts_ok h (by omega)]
      rfl
    · have hnl := lvl_size L _ n (List.mem_of_getElem? hn)
      have hj := (List.getElem?_eq_some_iff.mp hn).1
      have h81 := lvl_len4 h (k := k + 1) (by omega)
      obtain ⟨b1, b2⟩ := both_len (M := M) h (k := k) (j := j) hk (by omega)
      generalize ((lvl L (k + 1)).take j).foldl (cstep M) (st M L k) = s at hi b1 b2
      obtain ⟨x5, x6, x7, rfl⟩ := hi
      have hal : (alike2 M s.1 n).length ≤ s.1.length := List.length_filter_le _ _
      have hR : s.2.length ≤ 324 * 324 := Nat.le_trans b2 (Nat.mul_le_mul b1 b1)
      refine ⟨_, rfl, ?_⟩
      refine Ok.asg (d := tD (wr M n)) (by rw [ev_fn2 (x := mD M) (y := tD n) rfl rfl]; exact written_ok hM (by omega)) ?_
      refine Ok.seq (Ok.forSi (enc := tD) (fun i ρ => ∃ x7, ρ = [some (mD M), some (utD L), some (metD M s.1), some (rsD (s.2 ++ ((alike2 M s.1 n).take i).map fun o => row4 o n)), some (nD (k + 1)), some (tD n), some (tD (wr M n)), x7]) (alike2 M s.1 n) ?_ (fun i o ho ρ hi => ?_) ⟨x7, by rw [List.take_zero, List.map_nil, List.append_nil]; rfl⟩) fun ρ1 hi => ?_
      · show (op3 get2 _ _ _ _).bind itemsA = _
        rw [e_op3]
        show (get2 (metD M s.1) (tD (wr M n)) (.list [])).bind itemsA = _
        rw [met_get]
        rfl
      · obtain ⟨x7, rfl⟩ := hi
        have ho' := List.mem_of_getElem? ho
        refine ⟨_, rfl, ?_⟩
        refine Ok.app1 (v := Datum.toD (row4 o n)) rfl (nx_tup3 (x := nD (o.length + n.length)) (y := tD (mn o n)) (z := tD (mx2 o n)) ?_ ?_ ?_) ?_ ⟨rfl, some (tD o), ?_⟩
        · rw [hnl]
          exact nx_add (by rw [ev_fn1 (x := tD o) rfl]; exact t_len o) rfl
        · rw [ev_fn2 (x := tD o) (y := tD n) rfl rfl]
          exact min2_ok o n
        · rw [ev_fn2 (x := tD o) (y := tD n) rfl rfl]
          exact max2_ok o n
        · rw [List.length_map, List.length_append, List.length_map, List.length_take]
          omega
        · rw [rs_snoc ho]
          rfl
      · obtain ⟨x7, rfl⟩ := hi
        rw [List.take_length]
        refine Ok.put (d := metD M s.1) (k := tD (wr M n)) (v := ltD (alike2 M s.1 n ++ [n])) (d' := metD M (s.1 ++ [n])) rfl ?_ rfl (met_put n (by omega)) ⟨rfl, _, _, _, rfl⟩
        refine (nx_catL (xs := (alike2 M s.1 n).map tD) (ys := [tD n]) ?_ (nx_lst1 rfl) (by rw [List.length_map]; show _ + 1 ≤ _; omega)).trans ?_
        · rw [e_op3]
          exact met_get n
        · show some (PyData.list _) = some (PyData.list _)
          rw [List.map_append]
          rfl
    · obtain ⟨x5, x6, x7, rfl⟩ := q.2
      exact ⟨_, _, _, _, rfl⟩
  · obtain ⟨x4, x5, x6, x7, rfl⟩ := hi
    exact Ok.ret (res_ok rfl) rfl
theorem law_clean_ok {M : Tb} (hM : MOk M) {L : List Nat} (h : L.length ≤ 3) : k__law_clean [mD M, utD L] = some (resD (st M L 4).2) := by
  refine Ok.bd1 ?_
  show Ok m__law_clean [some (mD M), some (utD L), none, none, none, none, none, none, none, none, none, none] _
  refine Ok.par3 (d := .list []) (e := ltD [[]]) (u := .list []) rfl rfl rfl ?_
  refine Ok.seq (Ok.forSi (enc := nD) (fun k ρ => ∃ x5 x6 x7, ρ = [some (mD M), some (utD L), some (rsD []), some (ltD (lvl L k)), some (ltD (lvls L k)), x5, x6, x7, none, none, none, none]) (List.range 4) rfl (fun i k hk ρ hi => ?_) ⟨_, _, _, rfl⟩) fun ρ1 hi => ?_
  · obtain ⟨rfl, hk⟩ := range_get hk
    obtain ⟨x5, x6, x7, rfl⟩ := hi
    refine ⟨_, rfl, ?_⟩
    refine Ok.asg (d := .list []) rfl ?_
    have h81 := lvl_len4 h (k := k) (by omega)
    have h81' := lvl_len4 h (k := k + 1) (by omega)
    have hls := lvls_len h k (by omega)
    refine Ok.seq (Ok.forSi (enc := tD) (fun i ρ => ∃ x7, ρ = [some (mD M), some (utD L), some (rsD []), some (ltD (lvl L k)), some (ltD (lvls L k)), some (nD k), some (ltD (nxt L ((lvl L k).take i))), x7, none, none, none, none]) (lvl L k) rfl (fun i n hn ρ hi => ?_) ⟨_, rfl⟩) fun ρ1 hi => ?_
    · obtain ⟨x7, rfl⟩ := hi
      have hnl := lvl_size L _ n (List.mem_of_getElem? hn)
      have hz := nxt_len L ((lvl L k).take i)
      have hz2 : (nxt L ((lvl L k).take i)).length ≤ 81 * 3 := by
        rw [hz, List.length_take]
        exact Nat.mul_le_mul (by omega) h
      refine ⟨_, rfl, Ok.asg1 (d := ltD (nxt L ((lvl L k).take (i + 1)))) ?_ ⟨rfl, _, rfl⟩⟩
      refine (nx_catL (xs := (nxt L ((lvl L k).take i)).map tD) (ys := (L.map fun c => n ++ [c]).map tD) rfl (lc_okAM (enc := fun c => tD [c]) (fun c => n ++ [c]) tD L rfl fun c hc => ⟨_, rfl, rfl, ?_⟩) (by rw [List.length_map, List.length_map, List.length_map]; omega)).trans ?_
      · rw [ev_op2 rfl rfl]
        exact t_add n [c] (by rw [hnl]; show k + 1 ≤ _; omega)
      · have e : nxt L ((lvl L k).take (i + 1)) = nxt L ((lvl L k).take i) ++ L.map fun c => n ++ [c] := by
          unfold nxt
          rw [List.take_succ, hn, List.flatMap_append]
          simp
        rw [e, ← List.map_append]
    · obtain ⟨x7, rfl⟩ := hi
      rw [List.take_length]
      refine Ok.par2l (d := ltD (lvl L (k + 1))) (e := ltD (lvls L (k + 1))) rfl ?_ ⟨rfl, _, _, _, rfl⟩
      refine (nx_catL (xs := (lvls L k).map tD) (ys := (lvl L (k + 1)).map tD) rfl rfl (by rw [List.length_map, List.length_map]; omega)).trans ?_
      rw [lvls_succ, ← List.map_append]
  obtain ⟨x5, x6, x7, rfl⟩ := hi
  refine Ok.asg (d := .dict []) rfl ?_
  refine Ok.seq (Ok.forSf (enc := tD) (fun s ρ => ∃ x7 x10 x11, ρ = [some (mD M), some (utD L), some (rsD s.2), some (ltD (lvl L 4)), some (ltD (lvls L 4)), x5, x6, x7, none, some (metD M s.1), x10, x11]) (cstep M) ([], []) (lvls L 4) rfl (fun j n hn ρ hi => ?_) ⟨_, _, _, rfl⟩) fun ρ1 hi => ?_
  · have hnl : n.length ≤ 4 := by
      obtain ⟨q, hq, hn'⟩ := List.mem_flatMap.mp (List.mem_of_getElem? hn)
      have := List.mem_range.mp hq
      have := lvl_size L _ n hn'
      omega
    have hls := lvls_len h 4 (by omega)
    have b1 : (((lvls L 4).take j).foldl (cstep M) ([], [])).1.length ≤ 324 := by
      rw [cstep_fst, List.nil_append, List.length_take]
      omega
    have b2 : SOk (((lvls L 4).take j).foldl (cstep M) ([], [])) := cfold_ok _ _ _ (Nat.zero_le _)
    generalize ((lvls L 4).take j).foldl (cstep M) ([], []) = s at hi b1 b2
    obtain ⟨x7, x10, x11, rfl⟩ := hi
    have hal : (alike2 M s.1 n).length ≤ s.1.length := List.length_filter_le _ _
    have hR : s.2.length ≤ 324 * 324 := Nat.le_trans b2 (Nat.mul_le_mul b1 b1)
    refine ⟨_, rfl, ?_⟩
    refine Ok.asg (d := tD (wr M n)) (by rw [ev_fn2 (x := mD M) (y := tD n) rfl rfl]; exact law_written_ok hM (by omega)) ?_
    refine Ok.seq (Ok.forSi (enc := tD) (fun i ρ => ∃ x11, ρ = [some (mD M), some (utD L), some (rsD (s.2 ++ ((alike2 M s.1 n).take i).map fun o => row4 o n)), some (ltD (lvl L 4)), some (ltD (lvls L 4)), x5, x6, some (tD n), none, some (metD M s.1), some (tD (wr M n)), x11]) (alike2 M s.1 n) ?_ (fun i o ho ρ hi => ?_) ⟨x11, by rw [List.take_zero, List.map_nil, List.append_nil]; rfl⟩) fun ρ1 hi => ?_
    · show (op3 get2 _ _ _ _).bind itemsA = _
      rw [e_op3]
      show (get2 (metD M s.1) (tD (wr M n)) (.list [])).bind itemsA = _
      rw [met_get]
      rfl
    · obtain ⟨x11, rfl⟩ := hi
      have ho' := List.mem_of_getElem? ho
      refine ⟨_, rfl, ?_⟩
      refine Ok.app1 (v := Datum.toD (row4 o n)) rfl (nx_tup3 (x := nD (o.length + n.length)) (y := tD (mn o n)) (z := tD (mx2 o n)) ?_ ?_ ?_) ?_ ⟨rfl, some (tD o), ?_⟩
      · rw [Nat.add_comm]
        exact nx_add (by rw [ev_fn1 (x := tD n) rfl]; exact t_len n) (by rw [ev_fn1 (x := tD o) rfl]; exact t_len o)
      · rw [ev_fn2 (x := tD n) (y := tD o) rfl rfl, mn_comm]
        exact min2_ok n o
      · rw [ev_fn2 (x := tD n) (y := tD o) rfl rfl, mx_comm]
        exact max2_ok n o
      · rw [List.length_map, List.length_append, List.length_map, List.length_take]
        omega
      · rw [rs_snoc ho]
        rfl
    · obtain ⟨x11, rfl⟩ := hi
      rw [List.take_length]
      refine Ok.put (d := metD M s.1) (k := tD (wr M n)) (v := ltD (alike2 M s.1 n ++ [n])) (d' := metD M (s.1 ++ [n])) rfl ?_ rfl (met_put n (by omega)) ⟨rfl, _, _, _, rfl⟩
      refine (nx_catL (xs := (alike2 M s.1 n).map tD) (ys := [tD n]) ?_ (nx_lst1 rfl) (by rw [List.length_map]; show _ + 1 ≤ _; omega)).trans ?_
      · rw [e_op3]
        exact met_get n
      · show some (PyData.list _) = some (PyData.list _)
        rw [List.map_append]
        rfl
  · obtain ⟨x7, x10, x11, rfl⟩ := hi
    exact Ok.ret (res_ok rfl) rfl
theorem res_same (R : List R4) : smD 12 (resD R) := by
  cases R with
  | nil => exact sm_M (enc := PyData.str) [("yes" : Str)] (fun _ _ => trivial) (by decide)
  | cons r R => exact sm_2 (n := 11) trivial (sm_2 (n := 10) trivial trivial)
end LX

set_option Elab.async false
set_option linter.all false
set_option maxRecDepth 100000
namespace LX
open PySem PySem.Spec PyProof.Rows L2 PySem.W PL

theorem t_inT (c : Nat) (l : List Nat) : inB (tD [c]) (tD l) = some (decide (c ∈ l)) := by
  show some (!(Builtin.Str.occurrences (tx l) ⟨#[c]⟩ 0 (tx l).length 1).isEmpty) = _
  rw [PySem.StrLaws.found_one, tx_cps]
theorem nx_inT {f g : PL.Env → Option D} {ρ : PL.Env} {c : Nat} {l : List Nat} (hf : f ρ = some (tD [c])) (hg : g ρ = some (tD l)) : tru (op2 (bD inB) f g) ρ = some (decide (c ∈ l)) := nx_in hf hg (t_inT c l)
/-! ### shared letters, orders kept -/
section
variable {T : Tg} {W : List Wrd}
theorem t_itemsS (hT : TOk T) {f : PL.Env → Option D} {ρ : PL.Env} (hf : f ρ = some (gD T tD)) : anyI f ρ = some (T.map fun p => PyData.str p.1) := by
  show (f ρ).bind itemsA = _
  rw [hf]
  exact gd_itemsS T tD (fun p hp => by have := hT.key p hp; omega) (by have := hT.len; omega)
theorem al_mem (hT : TOk T) {p : Str × List Nat} (hp : p ∈ T) : al T p.1 = p.2 := by
  unfold al
  rw [g_some hT.nd hp]
  rfl
/-- [tongues[own] for own in tongues] -/
theorem alphabets (hT : TOk T) {it te : PL.Env → Option D} {vs : List Nat} {bnd : D → PL.Env → Option PL.Env} {ρ : PL.Env} (hit : it ρ = some (gD T tD)) (h : ∀ p ∈ T, ∃ ρ1, bnd (.str p.1) (wipeE ρ vs) = some ρ1 ∧ te ρ1 = some (tD (al T p.1))) : lc (anyI it) vs bnd yesT te ρ = some (ltD (T.map (·.2))) := by
  refine lc_okAM (enc := fun p : Str × List Nat => PyData.str p.1) (·.2) tD T (t_itemsS hT hit) fun p hp => ?_
  obtain ⟨ρ1, h1, h2⟩ := h p hp
  rw [al_mem hT hp] at h2
  exact ⟨ρ1, h1, rfl, h2⟩
def inAll (T : Tg) (c : Nat) : Bool := T.all fun p => decide (c ∈ p.2)
def shr (T : Tg) : List Nat := (List.range' 97 5).filter (inAll T)
theorem shr26 (hT : TOk T) : (List.range' 97 26).filter (inAll T) = shr T := by
  have e : List.range' 97 26 = List.range' 97 5 ++ List.range' 102 21 := rfl
  rw [e, List.filter_append]
  have : (List.range' 102 21).filter (inAll T) = [] := by
    refine List.filter_eq_nil_iff.mpr fun c hc q => ?_
    obtain ⟨p, T', rfl⟩ := List.exists_cons_of_ne_nil hT.ne
    have h1 := of_decide_eq_true (List.all_eq_true.mp q p List.mem_cons_self)
    have := (hT.al p List.mem_cons_self).2.2 c h1
    have := (List.mem_range'_1.mp hc).1
    omega
  rw [this, List.append_nil]
  rfl
theorem shared_ok (hT : TOk T) : k_shared_letters [gD T tD] = some (.tuple ((shr T).map fun c => tD [c])) := by
  refine Ok.bd1 ?_
  show Ok m_shared_letters [some (gD T tD), none, none, none, none] _
  refine Ok.asg (d := ltD (T.map (·.2))) (alphabets hT rfl fun p hp => ⟨_, rfl, t_ixd hT (List.mem_map_of_mem hp) rfl rfl⟩) ?_
  refine Ok.ret (d := .tuple ((shr T).map fun c => tD [c])) (nx_tupL ?_) rfl
  rw [← shr26 hT]
  refine lc_ok (enc := fun c => tD [c]) (inAll T) (fun c => tD [c]) (List.range' 97 26) rfl fun c hc => ⟨_, rfl, ?_, fun _ => rfl⟩
  have h1 : tru (op2 (bD neB) (var 1) (lst anil)) [some (gD T tD), some (ltD (T.map (·.2))), none, some (tD [c]), none] = some true := by
    refine nx_ct rfl rfl ?_
    show neB (.list ((T.map (·.2)).map tD)) (.list []) = _
    have e := ne_nilD (α := Str) (by decide) ((T.map (·.2)).map tx)
    rw [List.map_map, decide_eq_false (by simpa using hT.ne)] at e
    exact e
  refine (nx_and (r := true) (r2 := inAll T c) h1 fun _ => ?_).trans (by rw [Bool.true_and])
  refine nx_tru ?_
  rw [ev_fn1 (lc_okAM (enc := tD) (fun l : List Nat => decide (c ∈ l)) PyData.bool (T.map (·.2)) rfl fun l hl => ⟨_, rfl, rfl, ?_⟩)]
  · rw [q_all, List.map_map, List.all_map]
    rfl
  · exact nx_cv rfl rfl (t_inT c l)
def kept (T : Tg) (a b : Str) : List Nat := (al T a).filter fun c => decide (c ∈ al T b)
theorem keptD {f g : PL.Env → Option D} {ρ : PL.Env} (a b : List (List Nat)) (hf : f ρ = some (ltD a)) (hg : g ρ = some (ltD b)) : op2 (bD eqB) f g ρ = some (.bool (decide (a = b))) := by
  have e := eq_dat (α := List Str) (by decide) (a.map tx) (b.map tx)
  have e2 : (a.map tx = b.map tx) ↔ a = b := List.map_inj_right fun x y h => tx_inj.mp h
  have e3 : eqB (ltD a) (ltD b) = some (decide (a = b)) := by
    have e4 : (Datum.toD (a.map tx) : D) = ltD a := by show PyData.list _ = _; rw [List.map_map]; rfl
    have e5 : (Datum.toD (b.map tx) : D) = ltD b := by show PyData.list _ = _; rw [List.map_map]; rfl
    rw [e4, e5] at e
    rw [e]
    exact congrArg some (decide_eq_decide.mpr e2)
  exact nx_cv hf hg e3
abbrev one (l : List Nat) : List (List Nat) := l.map fun c => [c]
theorem order_kept_ok (hT : TOk T) {a b : Str} (ha : a ∈ T.map (·.1)) (hb : b ∈ T.map (·.1)) : k_order_kept [gD T tD, .str a, .str b] = some (.bool (decide (one (kept T a b) = one (kept T b a)))) := by
  refine Ok.bd1 ?_
  show Ok m_order_kept [some (gD T tD), some (.str a), some (.str b), none, none] _
  have part : ∀ (a b : Str) (f g : PL.Env → Option D) (ρ : PL.Env), a ∈ T.map (·.1) → b ∈ T.map (·.1) → f ρ = some (tD (al T a)) → (∀ c, g ((wipeE ρ [4]).set 4 (some (tD [c]))) = some (tD (al T b))) → (∀ c, var 4 ((wipeE ρ [4]).set 4 (some (tD [c]))) = some (tD [c])) → lc (anyI f) [4] (bN 4) (tru (op2 (bD inB) (var 4) g)) (var 4) ρ = some (ltD (one (kept T a b))) := fun a b f g ρ ha hb hf hg hv => by
    have := lc_ok (enc := fun c => tD [c]) (it := anyI f) (vs := [4]) (bnd := bN 4) (tt := tru (op2 (bD inB) (var 4) g)) (te := var 4) (ρ := ρ) (fun c => decide (c ∈ al T b)) (fun c => tD [c]) (al T a) (by show (f ρ).bind itemsA = _; rw [hf]; exact t_items _) fun c hc => ⟨_, rfl, nx_inT (hv c) (hg c), fun _ => hv c⟩
    rw [this]
    show some (PyData.list _) = some (PyData.list (List.map tD (List.map _ _)))
    rw [List.map_map]
    rfl
  refine Ok.asg (d := ltD (one (kept T a b))) (part a b _ _ _ ha hb (t_ixd hT ha rfl rfl) (fun c => t_ixd hT hb rfl rfl) fun c => rfl) ?_
  refine Ok.ret (d := .bool (decide (one (kept T a b) = one (kept T b a)))) (keptD _ _ rfl ?_) rfl
  exact part b a _ _ _ hb ha (t_ixd hT hb rfl rfl) (fun c => t_ixd hT ha rfl rfl) fun c => rfl
/-! ### are words -/
theorem wd_tuple (d : D) (h : cln d = true) (h2 : Ty.is .tuple d = false) : k_is_tuple_of [d, .int 2] = some (.bool false) := by
  refine Ok.bd1 (Ok.ret (d := .bool false) ?_ rfl)
  exact nx_andV (r := false) (r2 := false) (f := op1 (instD .tuple) (var 0)) (by show instD .tuple d = _; rw [v_inst .tuple _ h, h2]) fun x => by cases x
theorem wd_len (ds : List D) (h : cln (.tuple ds) = true) : k_is_tuple_of [.tuple ds, .int 2] = some (.bool (decide (ds.length = 2))) := by
  refine Ok.bd1 (Ok.ret (d := .bool (decide (ds.length = 2))) ?_ rfl)
  refine nx_andV (r := true) (r2 := decide (ds.length = 2)) (f := op1 (instD .tuple) (var 0)) (by show instD .tuple (.tuple ds) = _; rw [v_inst .tuple _ h]; rfl) fun _ => ?_
  refine nx_cv (x := nD ds.length) (y := nD 2) ?_ rfl (eqN _ _)
  rw [ev_fn1 (x := .tuple ds) rfl]
  rfl
def okL (l : List Nat) : Bool := decide (l ≠ []) && l.all fun c => decide (97 ≤ c) && decide (c ≤ 122)
theorem name_ok (l : List Nat) : k_is_name [tD l] = some (.bool (okL l)) := by
  refine Ok.bd1 (Ok.ret (d := .bool (okL l)) ?_ rfl)
  refine (nx_andV (r := true) (r2 := okL l) (f := op1 (instD .str) (var 0)) rfl fun _ => ?_).trans (by rw [Bool.true_and])
  refine nx_andV (r := decide (l ≠ [])) (r2 := l.all fun c => decide (97 ≤ c) && decide (c ≤ 122)) ?_ fun _ => ?_
  · refine (nx_cv rfl rfl (t_ne l [])).trans ?_
    rw [decide_not]
  · rw [ev_fn1 (lc_okAM (enc := fun c => tD [c]) (fun c => decide (97 ≤ c) && decide (c ≤ 122)) PyData.bool l (t_items l) fun c hc => ⟨_, rfl, rfl, ?_⟩)]
    · rw [q_all, List.all_map]
      rfl
    · exact nx_chn (f := cst (.str "a")) (g := var 1) (h := cst (.str "z")) rfl rfl (t_le1 97 c) fun _ => ⟨_, rfl, t_le1 c 122⟩
def spl (a l : List Nat) : Bool := okL l && l.all fun c => decide (c ∈ a)
theorem spells_ok (a l : List Nat) : k_spells [tD a, tD l] = some (.bool (spl a l)) := by
  refine Ok.bd1 (Ok.ret (d := .bool (spl a l)) ?_ rfl)
  refine nx_andV (r := okL l) (r2 := l.all fun c => decide (c ∈ a)) (f := fn k_is_name (acons (var 1) anil)) (by rw [ev_fn1 (x := tD l) rfl]; exact name_ok l) fun _ => ?_
  rw [ev_fn1 (lc_okAM (enc := fun c => tD [c]) (fun c => decide (c ∈ a)) PyData.bool l (t_items l) fun c hc => ⟨_, rfl, rfl, ?_⟩)]
  · rw [q_all, List.all_map]
    rfl
  · exact nx_cv rfl rfl (t_inT c a)
theorem spells_int (a : List Nat) (i : Int) : k_spells [tD a, .int i] = some (.bool false) := by
  refine Ok.bd1 (Ok.ret (d := .bool false) ?_ rfl)
  exact nx_andV (r := false) (r2 := false) (f := fn k_is_name (acons (var 1) anil)) rfl fun x => by cases x
theorem Ok.out {t : PL.Env → Option Bool} {f : PL.Env → Option D} {s2 : PL.Env → Option (Fl × PL.Env)} {ρ : PL.Env} {d : D} {P : Fl → PL.Env → Prop} (h : t ρ = some true) (hf : f ρ = some d) (p : P (.ret d) ρ) : Ok (seqS (ifS t (retS f) nilS) s2) ρ P :=
  ⟨_, _, rt (if1 h (by rw [e_retS, hf]; rfl)), p⟩
theorem word_not {d : D} (h : k_is_tuple_of [d, .int 2] = some (.bool false)) : k_is_word [gD T tD, d] = some (.bool false) := by
  refine Ok.bd1 ?_
  show Ok m_is_word [some (gD T tD), some d] _
  exact Ok.out (nx_or (r := true) (r2 := true) (nx_not (r := false) (nx_tru (by rw [ev_fn2 (x := d) (y := .int 2) rfl rfl]; exact h))) fun x => by cases x) rfl rfl
theorem word_nostr {d e : D} (hc : cln (.tuple [d, e]) = true) (hd : instD .str d = some (.bool false)) : k_is_word [gD T tD, .tuple [d, e]] = some (.bool false) := by
  refine Ok.bd1 ?_
  show Ok m_is_word [some (gD T tD), some (.tuple [d, e])] _
  refine Ok.out (nx_or (r := false) (r2 := true) (nx_not (r := true) (nx_tru (by rw [ev_fn2 (x := .tuple [d, e]) (y := .int 2) rfl rfl]; exact wd_len _ hc))) fun _ => nx_or (r := true) (r2 := true) (nx_not (r := false) (nx_tru ?_)) fun x => by cases x) rfl rfl
  show (op2 ixA (var 1) (cst (.int 0)) [some (gD T tD), some (.tuple [d, e])]).bind (instD .str) = _
  exact hd
theorem word_str {t : Str} {e : D} {b : Bool} (hc : cln (.tuple [.str t, e]) = true) (hb : k_spells [tD (al T t), e] = some (.bool b)) : k_is_word [gD T tD, .tuple [.str t, e]] = some (.bool (decide (t ∈ T.map (·.1)) && b)) := by
  have t1 : tru (fn k_is_tuple_of (acons (var 1) (acons (cst (.int 2)) anil))) [some (gD T tD), some (.tuple [.str t, e])] = some true := nx_tru (by rw [ev_fn2 (x := .tuple [.str t, e]) (y := .int 2) rfl rfl]; exact wd_len _ hc)
  have t2 : tru (op1 (instD .str) (op2 ixA (var 1) (cst (.int 0)))) [some (gD T tD), some (.tuple [.str t, e])] = some true := rfl
  have t3 : tru (op2 (bD (notB inB)) (op2 ixA (var 1) (cst (.int 0))) (var 0)) [some (gD T tD), some (.tuple [.str t, e])] = some (!(glk T t).isSome) := nx_nin (x := .str t) (y := gD T tD) rfl rfl (gd_in (κ := Str) T tD t)
  have tt : orT (notT (tru (fn k_is_tuple_of (acons (var 1) (acons (cst (.int 2)) anil))))) (orT (notT (tru (op1 (instD .str) (op2 ixA (var 1) (cst (.int 0)))))) (tru (op2 (bD (notB inB)) (op2 ixA (var 1) (cst (.int 0))) (var 0)))) [some (gD T tD), some (.tuple [.str t, e])] = some (!(glk T t).isSome) :=
    nx_or (r := false) (nx_not t1) fun _ => nx_or (r := false) (nx_not t2) fun _ => t3
  have run : ∀ v, Ok m_is_word [some (gD T tD), some (.tuple [.str t, e])] (fun fl _ => fl = .ret v) → k_is_word [gD T tD, .tuple [.str t, e]] = some v := fun v h => Ok.bd1 h
  by_cases ht : t ∈ T.map (·.1)
  · rw [decide_eq_true ht, Bool.true_and]
    obtain ⟨p, hp, rfl⟩ := List.mem_map.mp ht
    have hs : (glk T p.1).isSome = true := by
      unfold glk
      rw [Option.isSome_map, List.find?_isSome]
      exact ⟨p, hp, decide_eq_true rfl⟩
    rw [hs] at tt
    have hg : ixA (gD T tD) (.str p.1) = some (tD (al T p.1)) := by
      refine (gd_ix (κ := Str) T tD p.1).trans ?_
      obtain ⟨l, hl⟩ := Option.isSome_iff_exists.mp hs
      unfold al
      rw [hl]
      rfl
    have hx : fn k_spells (acons (op2 ixA (var 0) (op2 ixA (var 1) (cst (.int 0)))) (acons (op2 ixA (var 1) (cst (.int 1))) anil)) [some (gD T tD), some (.tuple [.str p.1, e])] = k_spells [tD (al T p.1), e] := ev_fn2 (by rw [ev_op2 (x := gD T tD) (y := .str p.1) rfl rfl]; exact hg) rfl
    exact run _ (Ok.skip tt (Ok.ret (hx.trans hb) rfl))
  · rw [decide_eq_false ht, Bool.false_and]
    rw [g_none ht] at tt
    exact run _ (Ok.out tt rfl rfl)
theorem are_ok (f : D → Bool) {ds : List D} (hc : cln (.tuple ds) = true) (h : ∀ d ∈ ds, k_is_word [gD T tD, d] = some (.bool (f d))) : k_are_words [gD T tD, .tuple ds] = some (.bool (ds.all f)) := by
  refine Ok.bd1 (Ok.ret (d := .bool (ds.all f)) ?_ rfl)
  refine (nx_andV (r := true) (r2 := ds.all f) (f := op1 (instD .tuple) (var 1)) (by show instD .tuple (.tuple ds) = _; rw [v_inst .tuple _ hc]; rfl) fun _ => ?_).trans (by rw [Bool.true_and])
  have e0 : ds = ds.map id := (List.map_id ds).symm
  rw [ev_fn1 (lc_okAM (enc := (id : D → D)) f PyData.bool ds (by show some ds = _; rw [← e0]) fun d hd => ⟨_, rfl, rfl, ?_⟩)]
  · rw [q_all, List.all_map]
    rfl
  · rw [ev_fn2 (x := gD T tD) (y := d) rfl rfl]
    exact h d hd
theorem are_not {d : D} (hd : instD .tuple d = some (.bool false)) : k_are_words [gD T tD, d] = some (.bool false) := by
  refine Ok.bd1 (Ok.ret (d := .bool false) ?_ rfl)
  exact nx_andV (r := false) (r2 := false) (f := op1 (instD .tuple) (var 1)) hd fun x => by cases x
theorem cln_w (p : Wrd) : cln (wD p) = true := rfl
theorem cln_ws : ∀ W : List Wrd, clnAll (W.map wD) = true
  | [] => rfl
  | p :: W => by
    show (cln (wD p) && clnAll (W.map wD)) = true
    rw [cln_ws W]
    rfl
theorem cln_wsx (W : List Wrd) {d : D} (h : cln d = true) : cln (.tuple (W.map wD ++ [d])) = true := by
  show clnAll (W.map wD ++ [d]) = true
  induction W with
  | nil =>
    show (cln d && true) = true
    rw [h]
    rfl
  | cons p W ih =>
    show (cln (wD p) && clnAll (W.map wD ++ [d])) = true
    rw [ih]
    rfl
theorem word_in (hT : TOk T) (hW : WOk T W) {p : Wrd} (hp : p ∈ W) : k_is_word [gD T tD, wD p] = some (.bool true) := by
  obtain ⟨m1, m2, _, m4⟩ := hW.mem _ hp
  refine (word_str rfl (spells_ok (al T p.1) p.2)).trans ?_
  have ha := (hT.al _ (al_get hT m1).2).2.2
  have : spl (al T p.1) p.2 = true := by
    unfold spl okL
    rw [decide_eq_true m2, List.all_eq_true.mpr fun c hc => decide_eq_true (m4 c hc), List.all_eq_true.mpr fun c hc => ?_]
    · rfl
    · have := ha c (m4 c hc)
      rw [decide_eq_true (by omega), decide_eq_true (by omega)]
      rfl
  rw [this, decide_eq_true m1]
  rfl
/-- the words and one that is none -/
theorem are_more (hT : TOk T) (hW : WOk T W) {d : D} (hc : cln d = true) (hd : k_is_word [gD T tD, d] = some (.bool false)) : k_are_words [gD T tD, .tuple (W.map wD ++ [d])] = some (.bool false) := by
  by_cases hm : d ∈ W.map wD
  · obtain ⟨p, hp, rfl⟩ := List.mem_map.mp hm
    rw [word_in hT hW hp] at hd
    cases hd
  · classical
    refine (are_ok (fun e => decide (e ≠ d)) (cln_wsx W hc) fun e he => ?_).trans ?_
    · rcases List.mem_append.mp he with he | he
      · have hne : e ≠ d := fun x => hm (x ▸ he)
        obtain ⟨p, hp, rfl⟩ := List.mem_map.mp he
        rw [word_in hT hW hp, decide_eq_true hne]
      · rw [List.mem_singleton.mp he, hd]
        simp
    · simp
theorem are_all (hT : TOk T) (hW : WOk T W) : k_are_words [gD T tD, .tuple (W.map wD)] = some (.bool true) := by
  refine (are_ok (fun _ => true) (cln_ws W) fun e he => ?_).trans (by simp)
  obtain ⟨p, hp, rfl⟩ := List.mem_map.mp he
  exact word_in hT hW hp
end
end LX

set_option Elab.async false
set_option linter.all false
set_option maxRecDepth 100000
namespace LX
open PySem PySem.Spec PyProof.Rows L2 PySem.W PL

/-! ### draws -/
abbrev onD (l : List Nat) : D := .list (l.map fun c => tD [c])
theorem on_ne {f : PL.Env → Option D} {ρ : PL.Env} (l : List Nat) (hf : f ρ = some (onD l)) : tru (op2 (bD neB) f (lst anil)) ρ = some (!decide (l = [])) := by
  refine nx_ct hf rfl ?_
  have e := ne_nilD (α := Str) (by decide) (l.map fun c => tx [c])
  rw [List.map_map] at e
  have e2 : decide ((l.map fun c => tx [c]) = []) = decide (l = []) := decide_eq_decide.mpr (by simp)
  rw [e2] at e
  exact e
/-- _law_alphabet: the letters in some order -/
theorem alpha_ok (xs : List Int) (i : Nat) (l : List Nat) (hl : l.length ≤ 5) : ∃ (m : List Nat) (i' : Nat), k__law_alphabet (Wd xs i) [tD l] = some (tD m, Wd xs i') ∧ m.Perm l := by
  suffices h : ∃ v w', k__law_alphabet (Wd xs i) [tD l] = some (v, w') ∧ ∃ (m : List Nat) (i' : Nat), v = tD m ∧ w' = Wd xs i' ∧ m.Perm l by
    obtain ⟨v, w', e, m, i', rfl, rfl, h⟩ := h
    exact ⟨m, i', e, h⟩
  refine Ok.bdw ?_
  show Ok m__law_alphabet [some (Wd xs i), some (tD l), none, none] _
  refine Ok.par2 (d := onD l) (e := tD []) (t_lst l rfl) rfl ?_
  refine Ok.seq (I := fun ρ => ∃ (F : List Nat) (j : Nat), ρ = [some (Wd xs j), some (tD l), some (onD []), some (tD F)] ∧ F.Perm l) (Ok.wh1 (I := fun n ρ => ∃ (R F : List Nat) (j : Nat), ρ = [some (Wd xs j), some (tD l), some (onD R), some (tD F)] ∧ R.length = n ∧ (F ++ R).Perm l) (Q := fun ρ => ∃ (F : List Nat) (j : Nat), ρ = [some (Wd xs j), some (tD l), some (onD []), some (tD F)] ∧ F.Perm l) (fun n ρ hi => ?_) (n := l.length) (by omega) ⟨l, [], i, rfl, rfl, List.Perm.refl _⟩) fun ρ1 hi => ?_
  · obtain ⟨R, F, j, rfl, rfl, hp⟩ := hi
    have t := on_ne (f := var 2) (ρ := [some (Wd xs j), some (tD l), some (onD R), some (tD F)]) R rfl
    by_cases hR : R = []
    · subst hR
      rw [List.append_nil] at hp
      exact .inl ⟨t, F, j, rfl, hp⟩
    · rw [decide_eq_false hR] at t
      refine .inr ⟨t, ?_⟩
      have hpos : 0 < R.length := List.length_pos_iff.mpr hR
      have hlen := hp.length_eq
      rw [List.length_append] at hlen
      obtain ⟨r, hr, fr⟩ := fw_next (j := 0) (xs := xs) (i := j) (ρ := [some (Wd xs j), some (tD l), some (onD R), some (tD F)]) (ase := aconsE (up (fn lenD (acons (var 2) anil))) anilE) rfl R.length hpos (by
        rw [e_aconsE, e_up, ev_fn1 (x := onD R) rfl]
        show (((some (PyData.int ((R.map fun c => tD [c]).length : Nat))).bind _).bind _) = _
        rw [List.length_map]
        rfl)
      have pp : popAtD (onD R) [nD r] = some (tD [R[r]], onD (R.eraseIdx r)) := by
        have ee : (R.map fun c => tD [c]).eraseIdx r = (R.eraseIdx r).map fun c => tD [c] := erase_map _ _ _
        rw [pop_at (by rw [List.length_map]; exact hr) (by rw [List.length_map]; omega), List.getElem_map, ee]
      have e1 : mutL 2 popAtD (aconsE (fnW 0 k__law_next (aconsE (up (fn lenD (acons (var 2) anil))) anilE)) anilE) [some (Wd xs j), some (tD l), some (onD R), some (tD F)] = some (tD [R[r]], [some (Wd xs ((j + 1 : Nat) : Int)), some (tD l), some (onD (R.eraseIdx r)), some (tD F)]) :=
        mut_to [some (Wd xs ((j + 1 : Nat) : Int)), some (tD l), some (onD R), some (tD F)] rfl (by rw [e_aconsE, fr]; rfl) rfl pp rfl
      have hperm : (F ++ [R[r]] ++ R.eraseIdx r).Perm (F ++ R) := by
        rw [List.append_assoc]
        exact List.Perm.append_left F (erase_perm R r hr)
      refine Ok.one (fl := .nx) (ρ1 := [some (Wd xs ((j + 1 : Nat) : Int)), some (tD l), some (onD (R.eraseIdx r)), some (tD (F ++ [R[r]]))]) ?_ ⟨rfl, R.length - 1, by omega, R.eraseIdx r, F ++ [R[r]], j + 1, rfl, ?_, hperm.trans hp⟩
      · rw [e_asgE, e_op2E, e_up]
        show ((((mutL 2 popAtD (aconsE (fnW 0 k__law_next (aconsE (up (fn lenD (acons (var 2) anil))) anilE)) anilE) [some (Wd xs j), some (tD l), some (onD R), some (tD F)]).bind _)).bind _) = _
        rw [e1, Option.bind_some]
        show ((addA (tD F) (tD [R[r]])).bind _).bind _ = _
        have hz : F.length + [R[r]].length ≤ 16777216 := by
          show F.length + 1 ≤ _
          omega
        rw [t_add _ _ hz]
        rfl
      · rw [List.length_eraseIdx, if_pos hr]
  · obtain ⟨F, j, rfl, hp⟩ := hi
    exact Ok.ret rfl ⟨_, _, rfl, rfl, F, j, rfl, rfl, hp⟩
theorem one_flat (bs : List Nat) : (bs.map fun c => [c]).flatten = bs := by
  induction bs with
  | nil => rfl
  | cons b bs ih => rw [List.map_cons, List.flatten_cons, ih]; rfl
theorem join_one {bs : List Nat} (h : bs.length ≤ 1000) : joinD (.str "") (onD bs) = some (tD bs) := by
  have := t_join (bs.map fun c => [c]) (by rw [one_flat]; omega)
  rw [one_flat, List.map_map] at this
  exact this
def abcde : List Nat := [97, 98, 99, 100, 101]
/-- [sign for sign in "abcde" if next(w, 3) > 0] -/
theorem some_draw (E : Nat → PL.Env) (xs : List Int) (i : Nat) {ρ : PL.Env} (hw : wipeE ρ [6] = E i) (h1 : ∀ j c, var 1 ((E j).set 6 (some (tD [c]))) = some (Wd xs j)) (h2 : ∀ j c, var 6 (((E j).set 6 (some (tD [c]))).set 1 (some (Wd xs ((j + 1 : Nat) : Int)))) = some (tD [c])) (h3 : ∀ j c, wipeE (((E j).set 6 (some (tD [c]))).set 1 (some (Wd xs ((j + 1 : Nat) : Int)))) [6] = E (j + 1)) :
    ∃ (l : List Nat) (i' : Nat), lcE (up (anyI (cst (.str "abcde")))) [6] (bN 6) (truE (op2E (bD gtB) (fnW 1 k__law_next (aconsE (up (cst (.int 3))) anilE)) (up (cst (.int 0))))) (up (var 6)) ρ = some (onD l, unwipe [6] 0 ρ (E i')) ∧ l.Sublist abcde := by
  obtain ⟨ys, i', e, s, g⟩ := lcE_ok (vs := [6]) (it := up (anyI (cst (.str "abcde")))) (bnd := bN 6) (tt := truE (op2E (bD gtB) (fnW 1 k__law_next (aconsE (up (cst (.int 3))) anilE)) (up (cst (.int 0))))) (te := up (var 6)) (ρ := ρ) (ρ1 := ρ) (enc := fun c : Nat => tD [c]) E abcde i (fun c y => y = tD [c]) rfl hw (fun c hc j => by
    obtain ⟨R, hR, e⟩ := fw_next (j := 1) (xs := xs) (i := j) (ρ := (E j).set 6 (some (tD [c]))) (ase := aconsE (up (cst (.int 3))) anilE) (h1 j c) 3 (by omega) rfl
    refine ⟨(E j).set 6 (some (tD [c])), decide (0 < R), ((E j).set 6 (some (tD [c]))).set 1 (some (Wd xs ((j + 1 : Nat) : Int))), rfl, ?_, fun _ => ⟨j + 1, h3 j c⟩, fun _ => ⟨tD [c], _, ?_, rfl, j + 1, h3 j c⟩⟩
    · have q : gtB (nD R) (.int 0) = some (decide (0 < R)) := gtN R 0
      have q2 : bD gtB (.int (R : Int)) (.int 0) = some (.bool (decide (0 < R))) := by
        show (gtB (nD R) (.int 0)).map PyData.bool = _
        rw [q]
        rfl
      simp only [e_truE, e_op2E, e, Option.bind_some, e_up, e_cst, q2, v_asB, Option.map_some]
    · rw [e_up, h2 j c]
      rfl)
  refine ⟨ys.map (·.1), i', ?_, s⟩
  rw [e]
  have : ys.map (·.2) = (ys.map (·.1)).map fun c => tD [c] := by
    rw [List.map_map]
    exact List.map_congr_left fun p hp => g p hp
  rw [this]
/-- dict([(sign, pick(w, rows)) for sign in "abcde" if next(w, 3) == 0]) -/
def wrs : List (List Nat) := [[97], [97, 101], [99, 104], [98], [99]]
theorem table_draw (E : Nat → PL.Env) (xs : List Int) (i : Nat) {ρ : PL.Env} (hw : wipeE ρ [6] = E i) (h1 : ∀ j c, var 1 ((E j).set 6 (some (tD [c]))) = some (Wd xs j)) (h2 : ∀ j c, var 6 (((E j).set 6 (some (tD [c]))).set 1 (some (Wd xs ((j + 1 : Nat) : Int)))) = some (tD [c]))
    (h4 : ∀ j c, var 1 (((E j).set 6 (some (tD [c]))).set 1 (some (Wd xs ((j + 1 : Nat) : Int)))) = some (Wd xs ((j + 1 : Nat) : Int)))
    (h3 : ∀ j c, wipeE (((E j).set 6 (some (tD [c]))).set 1 (some (Wd xs ((j + 1 : Nat) : Int)))) [6] = E (j + 1)) (h5 : ∀ j c, wipeE ((((E j).set 6 (some (tD [c]))).set 1 (some (Wd xs ((j + 1 : Nat) : Int)))).set 1 (some (Wd xs ((j + 1 + 1 : Nat) : Int)))) [6] = E (j + 1 + 1)) :
    ∃ (M : Tb) (i' : Nat), fnE dictD (aconsE (lcE (up (anyI (cst (.str "abcde")))) [6] (bN 6) (truE (op2E (bD eqB) (fnW 1 k__law_next (aconsE (up (cst (.int 3))) anilE)) (up (cst (.int 0))))) (tupE (aconsE (up (var 6)) (aconsE (fnW 1 k__law_pick (aconsE (up (lst (acons (cst (.str "a")) (acons (cst (.str "ae")) (acons (cst (.str "ch")) (acons (cst (.str "b")) (acons (cst (.str "c")) anil))))))) anilE)) anilE)))) anilE) ρ = some (mD M, unwipe [6] 0 ρ (E i')) ∧ MOk M := by
  obtain ⟨ys, i', e, s, g⟩ := lcE_ok (vs := [6]) (it := up (anyI (cst (.str "abcde")))) (bnd := bN 6) (tt := truE (op2E (bD eqB) (fnW 1 k__law_next (aconsE (up (cst (.int 3))) anilE)) (up (cst (.int 0))))) (te := tupE (aconsE (up (var 6)) (aconsE (fnW 1 k__law_pick (aconsE (up (lst (acons (cst (.str "a")) (acons (cst (.str "ae")) (acons (cst (.str "ch")) (acons (cst (.str "b")) (acons (cst (.str "c")) anil))))))) anilE)) anilE))) (ρ := ρ) (ρ1 := ρ) (enc := fun c : Nat => tD [c]) E abcde i (fun c y => ∃ d, d ∈ wrs ∧ y = .tuple [tD [c], tD d]) rfl hw (fun c hc j => by
    obtain ⟨R, hR, e⟩ := fw_next (j := 1) (xs := xs) (i := j) (ρ := (E j).set 6 (some (tD [c]))) (ase := aconsE (up (cst (.int 3))) anilE) (h1 j c) 3 (by omega) rfl
    refine ⟨(E j).set 6 (some (tD [c])), decide (R = 0), ((E j).set 6 (some (tD [c]))).set 1 (some (Wd xs ((j + 1 : Nat) : Int))), rfl, ?_, fun _ => ⟨j + 1, h3 j c⟩, fun _ => ?_⟩
    · have q : eqB (nD R) (.int 0) = some (decide (R = 0)) := eqN R 0
      have q2 : bD eqB (.int (R : Int)) (.int 0) = some (.bool (decide (R = 0))) := by
        show (eqB (nD R) (.int 0)).map PyData.bool = _
        rw [q]
        rfl
      simp only [e_truE, e_op2E, e, Option.bind_some, e_up, e_cst, q2, v_asB, Option.map_some]
    · obtain ⟨v, hv, ep⟩ := pick_list xs (j + 1) (wrs.map tD) (by simp [wrs])
      obtain ⟨d, hd, rfl⟩ := List.mem_map.mp hv
      have e2 := fw_pick (j := 1) (xs := xs) (i := j + 1) (ρ := ((E j).set 6 (some (tD [c]))).set 1 (some (Wd xs ((j + 1 : Nat) : Int)))) (ase := aconsE (up (lst (acons (cst (.str "a")) (acons (cst (.str "ae")) (acons (cst (.str "ch")) (acons (cst (.str "b")) (acons (cst (.str "c")) anil))))))) anilE) (h4 j c) rfl ep
      refine ⟨.tuple [tD [c], tD d], _, ?_, ⟨d, hd, rfl⟩, j + 1 + 1, h5 j c⟩
      rw [e_tupE, e_aconsE, e_up, h2 j c, Option.bind_some, Option.bind_some, e_aconsE, e2, Option.bind_some, e_anilE]
      rfl)
  obtain ⟨bs, b1, b2, b3⟩ := choose_map (ec := fun c d => PyData.tuple [tD [c], tD d]) (P := fun c d => d ∈ wrs) ys g
  let M : Tb := bs.map fun p => ([p.1], p.2)
  have hs : (bs.map (·.1)).Sublist abcde := b1 ▸ s
  have hnd : (bs.map (·.1)).Nodup := hs.nodup (by decide)
  have hlen : bs.length ≤ 5 := by
    have := hs.length_le
    rw [List.length_map] at this
    exact this
  refine ⟨M, i', ?_, fun p hp => ?_⟩
  · have ed : dictD [.list (ys.map (·.2))] = some (mD M) := by
      have := v_dictT (bs.map fun p => (tx [p.1], tD p.2)) (by
        have e : (bs.map fun p => (tx [p.1], tD p.2)).map (·.1) = (bs.map (·.1)).map fun c => tx [c] := by
          rw [List.map_map, List.map_map]
          rfl
        rw [e]
        exact nodup_map (fun x y h => List.singleton_inj.mp (tx_inj.mp h)) hnd) (by rw [List.length_map]; omega)
      rw [List.map_map, List.map_map] at this
      rw [b2]
      refine this.trans ?_
      refine congrArg (fun l => some (PyData.dict l)) ?_
      show _ = M.map _
      rw [List.map_map]
      rfl
    rw [e_fnE, e_aconsE, e, Option.bind_some, e_anilE, Option.bind_some, Option.bind_some]
    show (dictD [.list (ys.map (·.2))]).bind _ = _
    rw [ed]
    rfl
  · obtain ⟨q, hq, rfl⟩ := List.mem_map.mp hp
    have h1 := b3 q hq
    have : ∀ d ∈ wrs, d.length ≤ 2 := by decide
    exact this _ h1
/-- c + next(w, m) -/
theorem add_next {ρ : PL.Env} {j : Nat} {xs : List Int} {i : Nat} {f : PL.Env → Option D} {ase : PL.Env → Option (List D × PL.Env)} {c : Nat} (hf : f ρ = some (nD c)) (hj : var j ρ = some (Wd xs i)) (m : Nat) (hm : 0 < m) (ha : ase ρ = some ([nD m], ρ)) : ∃ R : Nat, R < m ∧ op2E addA (up f) (fnW j k__law_next ase) ρ = some (nD (c + R), ρ.set j (some (Wd xs ((i + 1 : Nat) : Int)))) := by
  obtain ⟨R, hR, e⟩ := fw_next hj m hm ha
  refine ⟨R, hR, ?_⟩
  rw [e_op2E, e_up, hf, Option.bind_some, Option.bind_some]
  show ((fnW j k__law_next ase ρ).bind _) = _
  rw [e, Option.bind_some]
  show (addA (nD c) (nD R)).bind _ = _
  rw [addN]
  rfl
section
variable {ρ ρ' ρ1 : PL.Env} {f g : PL.Env → Option D} {fe : PL.Env → Option (D × PL.Env)} {d v k d' : D} {ds : List D} {n : Nat} {l : List Nat}
theorem cut_draw (hf : f ρ = some (.list ds)) (he : fe ρ = some (nD n, ρ')) : slcE2 (up f) noBE (toBE fe) ρ = some (.list (ds.take n), ρ') := by
  show ((up f ρ).bind _) = _
  rw [e_up, hf, Option.bind_some, Option.bind_some]
  show ((toBE fe ρ).bind _) = _
  show (((fe ρ).bind _).bind _) = _
  rw [he]
  show some (PyData.list (cutD ds none (some (n : Int))), ρ') = _
  rw [l_take]
theorem cut_drawT (hf : f ρ = some (.tuple ds)) (he : fe ρ = some (nD n, ρ')) : slcE2 (up f) noBE (toBE fe) ρ = some (.tuple (ds.take n), ρ') := by
  show ((up f ρ).bind _) = _
  rw [e_up, hf, Option.bind_some, Option.bind_some]
  show ((toBE fe ρ).bind _) = _
  show (((fe ρ).bind _).bind _) = _
  rw [he]
  show some (PyData.tuple (cutD ds none (some (n : Int))), ρ') = _
  rw [l_take]
theorem join_E (h : fe ρ = some (onD l, ρ')) (hl : l.length ≤ 1000) : op2E joinD (up (cst (.str ""))) fe ρ = some (tD l, ρ') := by
  rw [e_op2E, e_up, e_cst, Option.bind_some, Option.bind_some]
  show (fe ρ).bind _ = _
  rw [h, Option.bind_some]
  show (joinD (.str "") (onD l)).bind _ = _
  rw [join_one hl]
  rfl
theorem Ok.putE {j : Nat} {P : Fl → PL.Env → Prop} (hv : fe ρ = some (v, ρ1)) (hd : var j ρ1 = some d) (hg : g ρ1 = some k) (hp : putD d k v = some d') (K : P .nx (ρ1.set j (some d'))) : Ok (putS j (up g) fe) ρ P := by
  refine Ok.one (fl := .nx) (ρ1 := ρ1.set j (some d')) ?_ K
  rw [e_putS, hv, Option.bind_some]
  show ((var j ρ1).bind _) = _
  rw [hd, Option.bind_some]
  show ((up g ρ1).bind _) = _
  rw [e_up, hg, Option.bind_some, Option.bind_some]
  show ((var j ρ1).bind _) = _
  rw [hd, Option.bind_some]
  show ((putD d k v).bind _) = _
  rw [hp]
  rfl
theorem same_test (hf : f ρ = some d) (hg : g ρ = some d) (sm : smD 12 d) : notT (tru (fn (k__law_same 12) (acons f (acons g anil)))) ρ = some false :=
  nx_not (r := true) (nx_tru (by rw [ev_fn2 hf hg, same_ok 12 d sm]))
theorem says_test {b : Bool} (hf : f ρ = some (.bool b)) (hg : g ρ = some (.bool b)) : notT (tru (fn k__law_says (acons f (acons g anil)))) ρ = some false :=
  nx_not (r := true) (nx_tru (by rw [ev_fn2 hf hg, says_ok]))
end
end LX

set_option Elab.async false
set_option linter.all false
set_option maxRecDepth 100000
namespace LX
open PySem PySem.Spec PyProof.Rows L2 PySem.W PL

def tNames : List Str := ["norse", "greek", "irish"]
def goodA (l : List Nat) : Prop := l.Nodup ∧ l ≠ [] ∧ ∀ c ∈ l, 97 ≤ c ∧ c ≤ 101
theorem good_of {l m : List Nat} (h : l.Sublist abcde) (p : m.Perm (if l = [] then [97] else l)) : goodA m := by
  have hg : goodA (if l = [] then [97] else l) := by
    by_cases e : l = []
    · rw [if_pos e]
      exact ⟨by decide, by decide, by decide⟩
    · rw [if_neg e]
      refine ⟨h.nodup (by decide), e, fun c hc => ?_⟩
      have : ∀ c ∈ abcde, 97 ≤ c ∧ c ≤ 101 := by decide
      exact this c (h.subset hc)
  exact ⟨p.nodup_iff.mpr hg.1, fun e => hg.2.1 (by subst e; exact p.symm.eq_nil), fun c hc => hg.2.2 c (p.mem_iff.mp hc)⟩
structure TG (T : Tg) (k : Nat) : Prop where
  keys : T.map (·.1) = tNames.take k
  good : ∀ p ∈ T, goodA p.2
theorem TG.ok {T : Tg} {k : Nat} (h : TG T k) (h0 : 0 < k) : TOk T ∧ ("norse" : Str) ∈ T.map (·.1) ∧ ("Norse" : Str) ∉ T.map (·.1) ∧ ∀ t ∈ T.map (·.1), PyData.canLay0 (.str t) = true := by
  have hk := h.keys
  have hlen : T.length ≤ 3 := by
    have := congrArg List.length hk
    rw [List.length_map, List.length_take] at this
    have : tNames.length = 3 := rfl
    omega
  have hin : ("norse" : Str) ∈ T.map (·.1) := by
    rw [hk]
    obtain ⟨k, rfl⟩ := Nat.exists_eq_succ_of_ne_zero (Nat.pos_iff_ne_zero.mp h0)
    exact List.mem_cons_self
  have hsub : ∀ t ∈ T.map (·.1), t ∈ tNames := fun t ht => by rw [hk] at ht; exact List.mem_of_mem_take ht
  refine ⟨⟨?_, hlen, fun e => absurd (e ▸ hin) List.not_mem_nil, h.good, fun p hp => ?_⟩, hin, fun x => ?_, fun t ht => ?_⟩
  · rw [hk]
    exact (List.take_sublist _ _).nodup (by decide)
  · have : ∀ t ∈ tNames, t.length ≤ 1000 := by decide
    exact this _ (hsub _ (List.mem_map_of_mem hp))
  · have := hsub _ x
    revert this
    decide
  · have : ∀ t ∈ tNames, PyData.canLay0 (.str t) = true := by decide +kernel
    exact this t (hsub t ht)

/-- the tongues -/
theorem tongues_ok (ns xs : List Int) (i a : Nat) (t3 t4 t5 t6 t7 t8 t9 t10 t11 t12 t13 t14 t15 t16 t17 t18 t19 t20 t21 t22 t23 t24 t25 t26 t27 t28 t29 t30 : Option D) {s2 : PL.Env → Option (Fl × PL.Env)} {P : Fl → PL.Env → Prop}
    (k : ∀ (T : Tg) (R i' : Nat) (t4 t5 t6 : Option D), TG T (1 + R) → Ok s2 [some (scr ns), some (Wd xs i'), some (nD a), some (gD T tD), t4, t5, t6, t7, t8, t9, t10, t11, t12, t13, t14, t15, t16, t17, t18, t19, t20, t21, t22, t23, t24, t25, t26, t27, t28, t29, t30] P) :
    Ok (seqS (forE (seqIE (slcE2 (up (lst (acons (cst (.str "norse")) (acons (cst (.str "greek")) (acons (cst (.str "irish")) anil))))) noBE (toBE (op2E addA (up (cst (.int 1))) (fnW 1 k__law_next (aconsE (up (cst (.int 3))) anilE)))))) (bN 4)
    (seqS
    (asgE 5 (op2E joinD (up (cst (.str ""))) (lcE (up (anyI (cst (.str "abcde")))) [6] (bN 6) (truE (op2E (bD gtB) (fnW 1 k__law_next (aconsE (up (cst (.int 3))) anilE)) (up (cst (.int 0))))) (up (var 6)))))
    (putS 3 (up (var 4)) (fnW 1 k__law_alphabet (aconsE (up (ifE (tru (op2 (bD neB) (var 5) (cst (.str "")))) (var 5) (cst (.str "a")))) anilE))))) s2) [some (scr ns), some (Wd xs i), some (nD a), some (.dict []), t4, t5, t6, t7, t8, t9, t10, t11, t12, t13, t14, t15, t16, t17, t18, t19, t20, t21, t22, t23, t24, t25, t26, t27, t28, t29, t30] P := by
  obtain ⟨R, hR, e0⟩ := add_next (j := 1) (ρ := [some (scr ns), some (Wd xs i), some (nD a), some (.dict []), t4, t5, t6, t7, t8, t9, t10, t11, t12, t13, t14, t15, t16, t17, t18, t19, t20, t21, t22, t23, t24, t25, t26, t27, t28, t29, t30]) (xs := xs) (i := i) (f := cst (.int 1)) (c := 1) (ase := aconsE (up (cst (.int 3))) anilE) rfl rfl 3 (by omega) rfl
  refine Ok.seq (Ok.forEi (enc := PyData.str) (fun n ρ => ∃ (T : Tg) (j : Nat) (x4 x5 x6 : Option D), ρ = [some (scr ns), some (Wd xs j), some (nD a), some (gD T tD), x4, x5, x6, t7, t8, t9, t10, t11, t12, t13, t14, t15, t16, t17, t18, t19, t20, t21, t22, t23, t24, t25, t26, t27, t28, t29, t30] ∧ TG T n) (tNames.take (1 + R)) (ρ1 := [some (scr ns), some (Wd xs ((i + 1 : Nat) : Int)), some (nD a), some (.dict []), t4, t5, t6, t7, t8, t9, t10, t11, t12, t13, t14, t15, t16, t17, t18, t19, t20, t21, t22, t23, t24, t25, t26, t27, t28, t29, t30]) ?_ (fun n t ht ρ hi => ?_) ⟨[], _, _, _, _, rfl, rfl, fun p hp => nomatch hp⟩) fun ρ1 hi => ?_
  · show ((slcE2 _ _ _ _).bind _) = _
    rw [cut_draw (ds := tNames.map .str) (n := 1 + R) rfl e0]
    show some ((tNames.map PyData.str).take (1 + R), _) = _
    rw [List.map_take]
    rfl
  · obtain ⟨T, j, x4, x5, x6, rfl, hT⟩ := hi
    refine ⟨_, rfl, ?_⟩
    show Ok _ [some (scr ns), some (Wd xs j), some (nD a), some (gD T tD), some (.str t), x5, x6, t7, t8, t9, t10, t11, t12, t13, t14, t15, t16, t17, t18, t19, t20, t21, t22, t23, t24, t25, t26, t27, t28, t29, t30] _
    obtain ⟨l, j2, e1, hl⟩ := some_draw (fun j => [some (scr ns), some (Wd xs j), some (nD a), some (gD T tD), some (.str t), x5, none, t7, t8, t9, t10, t11, t12, t13, t14, t15, t16, t17, t18, t19, t20, t21, t22, t23, t24, t25, t26, t27, t28, t29, t30]) xs j (ρ := [some (scr ns), some (Wd xs j), some (nD a), some (gD T tD), some (.str t), x5, x6, t7, t8, t9, t10, t11, t12, t13, t14, t15, t16, t17, t18, t19, t20, t21, t22, t23, t24, t25, t26, t27, t28, t29, t30]) rfl (fun _ _ => rfl) (fun _ _ => rfl) (fun _ _ => rfl)
    have hll := hl.length_le
    have hl5 : l.length ≤ 5 := hll
    refine Ok.asgE (d := tD l) (ρ1 := [some (scr ns), some (Wd xs j2), some (nD a), some (gD T tD), some (.str t), x5, x6, t7, t8, t9, t10, t11, t12, t13, t14, t15, t16, t17, t18, t19, t20, t21, t22, t23, t24, t25, t26, t27, t28, t29, t30]) (join_E e1 (by omega)) ?_
    show Ok _ [some (scr ns), some (Wd xs j2), some (nD a), some (gD T tD), some (.str t), some (tD l), x6, t7, t8, t9, t10, t11, t12, t13, t14, t15, t16, t17, t18, t19, t20, t21, t22, t23, t24, t25, t26, t27, t28, t29, t30] _
    have hne : tru (op2 (bD neB) (var 5) (cst (.str ""))) [some (scr ns), some (Wd xs j2), some (nD a), some (gD T tD), some (.str t), some (tD l), x6, t7, t8, t9, t10, t11, t12, t13, t14, t15, t16, t17, t18, t19, t20, t21, t22, t23, t24, t25, t26, t27, t28, t29, t30] = some (!decide (l = [])) := nx_ct rfl rfl (t_ne l [])
    have hv : ifE (tru (op2 (bD neB) (var 5) (cst (.str "")))) (var 5) (cst (.str "a")) [some (scr ns), some (Wd xs j2), some (nD a), some (gD T tD), some (.str t), some (tD l), x6, t7, t8, t9, t10, t11, t12, t13, t14, t15, t16, t17, t18, t19, t20, t21, t22, t23, t24, t25, t26, t27, t28, t29, t30] = some (tD (if l = [] then [97] else l)) := by
      by_cases e : l = []
      · rw [decide_eq_true e] at hne
        rw [if_pos e]
        exact nx_ifE0 hne rfl
      · rw [decide_eq_false e] at hne
        rw [if_neg e]
        exact nx_ifE1 hne rfl
    obtain ⟨m, j3, e2, hm⟩ := alpha_ok xs j2 (if l = [] then [97] else l) (by split <;> first | omega | decide)
    have hn : t ∉ T.map (·.1) := by
      rw [hT.keys]
      intro hm
      have hnd : (tNames.take (1 + R)).Nodup := (List.take_sublist _ _).nodup (by decide)
      obtain ⟨q, hq⟩ := List.mem_iff_getElem?.mp hm
      have hq' := hq
      rw [List.getElem?_take] at hq
      split at hq
      · rename_i hlt
        have h1 := ht
        rw [List.getElem?_take] at h1
        split at h1
        · have hnd2 : tNames.Nodup := by decide
          obtain ⟨b1, c1⟩ := List.getElem?_eq_some_iff.mp hq
          obtain ⟨b2, c2⟩ := List.getElem?_eq_some_iff.mp h1
          have := (List.getElem_inj hnd2 (h₀ := b1) (h₁ := b2)).mp (c1.trans c2.symm)
          omega
        · cases h1
      · cases hq
    have hTl : T.length ≤ 3 := by
      have := congrArg List.length hT.keys
      rw [List.length_map, List.length_take] at this
      have : tNames.length = 3 := rfl
      omega
    refine Ok.putE (v := tD m) (k := .str t) (d := gD T tD) (d' := gD (T ++ [(t, m)]) tD) (fw_gen (j := 1) rfl (by rw [e_aconsE, e_up, hv]; rfl) e2) rfl rfl ?_ ⟨rfl, T ++ [(t, m)], j3, some (.str t), some (tD l), x6, rfl, ?_, fun p hp => ?_⟩
    · refine (gd_put (κ := Str) T tD t m (by omega)).trans ?_
      rw [gput_new hn]
    · rw [List.map_append, hT.keys]
      have h1 := ht
      rw [List.getElem?_take] at h1
      split at h1
      · rw [List.take_succ, h1]
        rfl
      · cases h1
    · rcases List.mem_append.mp hp with hp | hp
      · exact hT.good p hp
      · rw [List.mem_singleton.mp hp]
        exact good_of hl hm
  · obtain ⟨T, j, x4, x5, x6, rfl, hT⟩ := hi
    have hlen : (tNames.take (1 + R)).length = 1 + R := by
      rw [List.length_take]
      have : tNames.length = 3 := rfl
      omega
    rw [hlen] at hT
    exact k T R j x4 x5 x6 hT
/-- the row of the tongues -/
theorem row_ok (ns xs : List Int) (i a : Nat) (t3 t4 t5 t6 t7 t8 t9 t10 t11 t12 t13 t14 t15 t16 t17 t18 t19 t20 t21 t22 t23 t24 t25 t26 t27 t28 t29 t30 : Option D) {T : Tg} (hT : TOk T) {s2 : PL.Env → Option (Fl × PL.Env)} {P : Fl → PL.Env → Prop}
    (k : ∀ (row : List Str) (i' : Nat), (∀ t, t ∈ row ↔ t ∈ T.map (·.1)) → Ok s2 [some (scr ns), some (Wd xs i'), some (nD a), some (gD T tD), t4, t5, t6, some (.tuple (row.map .str)), t8, t9, t10, t11, t12, t13, t14, t15, t16, t17, t18, t19, t20, t21, t22, t23, t24, t25, t26, t27, t28, t29, t30] P) :
    Ok (seqS (asgE 7 (fnW 1 k__law_pick (aconsE (up (lst (acons (fn tupleA (acons (var 3) anil)) (acons (fn tupleD (acons (fn sortedA (acons (var 3) anil)) anil)) (acons (op1 revD (fn tupleA (acons (var 3) anil))) anil))))) anilE))) s2) [some (scr ns), some (Wd xs i), some (nD a), some (gD T tD), t4, t5, t6, t7, t8, t9, t10, t11, t12, t13, t14, t15, t16, t17, t18, t19, t20, t21, t22, t23, t24, t25, t26, t27, t28, t29, t30] P := by
  have hkl : ∀ p ∈ T, p.1.length ≤ 16777216 := fun p hp => by have := hT.key p hp; omega
  have e1 : fn tupleA (acons (var 3) anil) [some (scr ns), some (Wd xs i), some (nD a), some (gD T tD), t4, t5, t6, t7, t8, t9, t10, t11, t12, t13, t14, t15, t16, t17, t18, t19, t20, t21, t22, t23, t24, t25, t26, t27, t28, t29, t30] = some (.tuple (T.map fun p => .str p.1)) := gd_tupS T tD hT.ne hkl rfl
  have e2 : fn sortedA (acons (var 3) anil) [some (scr ns), some (Wd xs i), some (nD a), some (gD T tD), t4, t5, t6, t7, t8, t9, t10, t11, t12, t13, t14, t15, t16, t17, t18, t19, t20, t21, t22, t23, t24, t25, t26, t27, t28, t29, t30] = some (.list ((sortT (T.map (·.1))).map Datum.toD)) := by
    rw [ev_fn1 (x := gD T tD) rfl]
    have := v_sortedDict (T.map fun p => (p.1, tD p.2)) (fun p hp => by
      obtain ⟨q, hq, rfl⟩ := List.mem_map.mp hp
      exact hT.key q hq)
    rw [List.map_map, List.map_map] at this
    exact this
  have e3 : lst (acons (fn tupleA (acons (var 3) anil)) (acons (fn tupleD (acons (fn sortedA (acons (var 3) anil)) anil)) (acons (op1 revD (fn tupleA (acons (var 3) anil))) anil))) [some (scr ns), some (Wd xs i), some (nD a), some (gD T tD), t4, t5, t6, t7, t8, t9, t10, t11, t12, t13, t14, t15, t16, t17, t18, t19, t20, t21, t22, t23, t24, t25, t26, t27, t28, t29, t30] = some (.list ([T.map (·.1), sortT (T.map (·.1)), (T.map (·.1)).reverse].map fun r => .tuple (r.map .str))) := by
    refine (nx_lst (nx_ac e1 (nx_ac (nx_tupL e2) (nx_ac (x := .tuple (T.map fun p => .str p.1).reverse) ?_ nx_an)))).trans ?_
    · show (fn tupleA (acons (var 3) anil) [some (scr ns), some (Wd xs i), some (nD a), some (gD T tD), t4, t5, t6, t7, t8, t9, t10, t11, t12, t13, t14, t15, t16, t17, t18, t19, t20, t21, t22, t23, t24, t25, t26, t27, t28, t29, t30]).bind revD = _
      rw [e1]
      rfl
    · show some (PyData.list [_, _, _]) = some (PyData.list [_, _, _])
      simp only [List.map_map, List.map_reverse]
      rfl
  obtain ⟨v, hv, ep⟩ := pick_list xs i ([T.map (·.1), sortT (T.map (·.1)), (T.map (·.1)).reverse].map fun r => .tuple (r.map .str)) (by simp)
  obtain ⟨row, hr, rfl⟩ := List.mem_map.mp hv
  refine Ok.asgE (fw_pick (j := 1) (xs := xs) (i := i) rfl (by rw [e_aconsE, e_up, e3]; rfl) ep) ?_
  refine k row (i + 1) fun t => ?_
  simp only [List.mem_cons, List.not_mem_nil, or_false] at hr
  rcases hr with rfl | rfl | rfl
  · exact Iff.rfl
  · exact sortT_mem
  · exact List.mem_reverse
end LX

set_option Elab.async false
set_option linter.all false
set_option maxRecDepth 100000
namespace LX
open PySem PySem.Spec PyProof.Rows L2 PySem.W PL

theorem dT {f : PL.Env → Option D} {ρ : PL.Env} {β : Type} (T : List (Str × β)) (g : β → D) (hf : f ρ = some (gD T g)) : fn dictD (acons f anil) ρ = some (gD T g) := by
  rw [ev_fn1 hf]
  exact v_dictC T g fun _ => rfl
theorem dM {f : PL.Env → Option D} {ρ : PL.Env} (M : Tb) (hf : f ρ = some (mD M)) : fn dictD (acons f anil) ρ = some (mD M) := by
  rw [ev_fn1 hf]
  exact dD_dict M tD

/-- the words -/
theorem words_ok (ns xs : List Int) (i a : Nat) (t3 t4 t5 t6 t7 t8 t9 t10 t11 t12 t13 t14 t15 t16 t17 t18 t19 t20 t21 t22 t23 t24 t25 t26 t27 t28 t29 t30 : Option D) {T : Tg} (hT : TOk T) {s2 : PL.Env → Option (Fl × PL.Env)} {P : Fl → PL.Env → Prop}
    (k : ∀ (W : List Wrd) (i' : Nat) (t4 t9 t10 : Option D), WOk T W → Ok s2 [some (scr ns), some (Wd xs i'), some (nD a), some (gD T tD), t4, t5, t6, t7, some (.tuple (W.map wD)), t9, t10, t11, t12, t13, t14, t15, t16, t17, t18, t19, t20, t21, t22, t23, t24, t25, t26, t27, t28, t29, t30] P) :
    Ok (seqS (asgS 8 (lst anil)) (seqS
    (forE (rngE (aconsE (fnW 1 k__law_next (aconsE (up (cst (.int 8))) anilE)) anilE)) (bN 9)
    (seqS
    (asgE 4 (fnW 1 k__law_pick (aconsE (up (fn listA (acons (var 3) anil))) anilE)))
    (exprS (mutL 8 appendD (aconsE (tupE (aconsE (up (var 4)) (aconsE (op2E joinD (up (cst (.str ""))) (lcE (rngE (aconsE (op2E addA (up (cst (.int 1))) (fnW 1 k__law_next (aconsE (up (cst (.int 3))) anilE))) anilE)) [10] (bN 10) yesTE (fnW 1 k__law_pick (aconsE (up (op2 ixA (var 3) (var 4))) anilE)))) anilE))) anilE)))))
    (seqS (asgS 8 (fn tupleA (acons (var 8) anil))) s2))) [some (scr ns), some (Wd xs i), some (nD a), some (gD T tD), t4, t5, t6, t7, t8, t9, t10, t11, t12, t13, t14, t15, t16, t17, t18, t19, t20, t21, t22, t23, t24, t25, t26, t27, t28, t29, t30] P := by
  have hkl : ∀ p ∈ T, p.1.length ≤ 16777216 := fun p hp => by have := hT.key p hp; omega
  refine Ok.asg (d := .list []) rfl ?_
  show Ok _ [some (scr ns), some (Wd xs i), some (nD a), some (gD T tD), t4, t5, t6, t7, some (.list []), t9, t10, t11, t12, t13, t14, t15, t16, t17, t18, t19, t20, t21, t22, t23, t24, t25, t26, t27, t28, t29, t30] _
  obtain ⟨R, hR, e0⟩ := rng_next (j := 1) (ρ := [some (scr ns), some (Wd xs i), some (nD a), some (gD T tD), t4, t5, t6, t7, some (.list []), t9, t10, t11, t12, t13, t14, t15, t16, t17, t18, t19, t20, t21, t22, t23, t24, t25, t26, t27, t28, t29, t30]) (xs := xs) (i := i) (ase := aconsE (up (cst (.int 8))) anilE) rfl 8 (by omega) (by omega) rfl
  refine Ok.seq (Ok.forEi (enc := nD) (fun n ρ => ∃ (W : List Wrd) (j : Nat) (x4 x9 x10 : Option D), ρ = [some (scr ns), some (Wd xs j), some (nD a), some (gD T tD), x4, t5, t6, t7, some (.list (W.map wD)), x9, x10, t11, t12, t13, t14, t15, t16, t17, t18, t19, t20, t21, t22, t23, t24, t25, t26, t27, t28, t29, t30] ∧ W.length = n ∧ ∀ p ∈ W, p.1 ∈ T.map (·.1) ∧ p.2 ≠ [] ∧ p.2.length ≤ 3 ∧ ∀ c ∈ p.2, c ∈ al T p.1) (List.range R) e0 (fun n b hb ρ hi => ?_) ⟨[], _, _, _, _, rfl, rfl, fun p hp => nomatch hp⟩) fun ρ1 hi => ?_
  · obtain ⟨W, j, x4, x9, x10, rfl, hl, hW⟩ := hi
    obtain ⟨rfl, hb'⟩ := range_get hb
    refine ⟨_, rfl, ?_⟩
    show Ok _ [some (scr ns), some (Wd xs j), some (nD a), some (gD T tD), x4, t5, t6, t7, some (.list (W.map wD)), some (nD b), x10, t11, t12, t13, t14, t15, t16, t17, t18, t19, t20, t21, t22, t23, t24, t25, t26, t27, t28, t29, t30] _
    have e1 : fn listA (acons (var 3) anil) [some (scr ns), some (Wd xs j), some (nD a), some (gD T tD), x4, t5, t6, t7, some (.list (W.map wD)), some (nD b), x10, t11, t12, t13, t14, t15, t16, t17, t18, t19, t20, t21, t22, t23, t24, t25, t26, t27, t28, t29, t30] = some (.list (T.map fun p => .str p.1)) := gd_lstS T tD hT.ne hkl rfl
    obtain ⟨v, hv, ep⟩ := pick_list xs j (T.map fun p => PyData.str p.1) (by simpa using hT.ne)
    obtain ⟨p, hp, rfl⟩ := List.mem_map.mp hv
    have ht : p.1 ∈ T.map (·.1) := List.mem_map_of_mem hp
    generalize p.1 = t at ht ep
    refine Ok.asgE (d := .str t) (ρ1 := [some (scr ns), some (Wd xs ((j + 1 : Nat) : Int)), some (nD a), some (gD T tD), x4, t5, t6, t7, some (.list (W.map wD)), some (nD b), x10, t11, t12, t13, t14, t15, t16, t17, t18, t19, t20, t21, t22, t23, t24, t25, t26, t27, t28, t29, t30]) (fw_pick (j := 1) (xs := xs) (i := j) rfl (by rw [e_aconsE, e_up, e1]; rfl) ep) ?_
    show Ok _ [some (scr ns), some (Wd xs ((j + 1 : Nat) : Int)), some (nD a), some (gD T tD), some (.str t), t5, t6, t7, some (.list (W.map wD)), some (nD b), x10, t11, t12, t13, t14, t15, t16, t17, t18, t19, t20, t21, t22, t23, t24, t25, t26, t27, t28, t29, t30] _
    obtain ⟨R', hR', hr'⟩ := rng_cnext (j := 1) (ρ := [some (scr ns), some (Wd xs ((j + 1 : Nat) : Int)), some (nD a), some (gD T tD), some (.str t), t5, t6, t7, some (.list (W.map wD)), some (nD b), x10, t11, t12, t13, t14, t15, t16, t17, t18, t19, t20, t21, t22, t23, t24, t25, t26, t27, t28, t29, t30]) (xs := xs) (i := j + 1) rfl 1 3 (by omega) (by omega)
    have hale : al T t ≠ [] := (hT.al _ (al_get hT ht).2).2.1
    obtain ⟨bs, i2, e2, hbl, hP⟩ := lcE_okA (vs := [10]) (it := rngE (aconsE (op2E addA (up (cst (.int 1))) (fnW 1 k__law_next (aconsE (up (cst (.int 3))) anilE))) anilE)) (bnd := bN 10) (te := fnW 1 k__law_pick (aconsE (up (op2 ixA (var 3) (var 4))) anilE)) (ρ := [some (scr ns), some (Wd xs ((j + 1 : Nat) : Int)), some (nD a), some (gD T tD), some (.str t), t5, t6, t7, some (.list (W.map wD)), some (nD b), x10, t11, t12, t13, t14, t15, t16, t17, t18, t19, t20, t21, t22, t23, t24, t25, t26, t27, t28, t29, t30]) (ρ1 := [some (scr ns), some (Wd xs ((j + 1 + 1 : Nat) : Int)), some (nD a), some (gD T tD), some (.str t), t5, t6, t7, some (.list (W.map wD)), some (nD b), x10, t11, t12, t13, t14, t15, t16, t17, t18, t19, t20, t21, t22, t23, t24, t25, t26, t27, t28, t29, t30]) (enc := fun i : Nat => PyData.int (i : Int))
      (fun q => [some (scr ns), some (Wd xs q), some (nD a), some (gD T tD), some (.str t), t5, t6, t7, some (.list (W.map wD)), some (nD b), none, t11, t12, t13, t14, t15, t16, t17, t18, t19, t20, t21, t22, t23, t24, t25, t26, t27, t28, t29, t30]) (List.range (1 + R')) (j + 1 + 1) (fun c : Nat => c ∈ al T t) (fun c => tD [c]) hr' rfl (fun q hq j => by
        obtain ⟨c, hc, ec⟩ := pick_str xs j (tx (al T t)) (by rw [tx_cps]; exact hale)
        rw [tx_cps] at hc
        refine ⟨[some (scr ns), some (Wd xs j), some (nD a), some (gD T tD), some (.str t), t5, t6, t7, some (.list (W.map wD)), some (nD b), some (nD q), t11, t12, t13, t14, t15, t16, t17, t18, t19, t20, t21, t22, t23, t24, t25, t26, t27, t28, t29, t30], c, j + 1, [some (scr ns), some (Wd xs ((j + 1 : Nat) : Int)), some (nD a), some (gD T tD), some (.str t), t5, t6, t7, some (.list (W.map wD)), some (nD b), some (nD q), t11, t12, t13, t14, t15, t16, t17, t18, t19, t20, t21, t22, t23, t24, t25, t26, t27, t28, t29, t30], rfl, ?_, hc, rfl⟩
        exact fw_pick (j := 1) (xs := xs) (i := j) rfl (by rw [e_aconsE, e_up, t_ixd hT ht rfl rfl]; rfl) ec)
    rw [List.length_range] at hbl
    have eu : unwipe [10] 0 [some (scr ns), some (Wd xs ((j + 1 + 1 : Nat) : Int)), some (nD a), some (gD T tD), some (.str t), t5, t6, t7, some (.list (W.map wD)), some (nD b), x10, t11, t12, t13, t14, t15, t16, t17, t18, t19, t20, t21, t22, t23, t24, t25, t26, t27, t28, t29, t30] [some (scr ns), some (Wd xs i2), some (nD a), some (gD T tD), some (.str t), t5, t6, t7, some (.list (W.map wD)), some (nD b), none, t11, t12, t13, t14, t15, t16, t17, t18, t19, t20, t21, t22, t23, t24, t25, t26, t27, t28, t29, t30] = [some (scr ns), some (Wd xs i2), some (nD a), some (gD T tD), some (.str t), t5, t6, t7, some (.list (W.map wD)), some (nD b), x10, t11, t12, t13, t14, t15, t16, t17, t18, t19, t20, t21, t22, t23, t24, t25, t26, t27, t28, t29, t30] := rfl
    rw [eu] at e2
    have e3 := join_E (l := bs) e2 (by omega)
    have ap : appendD (.list (W.map wD)) [wD (t, bs)] = some (.none, .list ((W ++ [(t, bs)]).map wD)) := by
      rw [v_append _ _ (by rw [List.length_map]; omega), List.map_append]
      rfl
    have e4 := mut_to (i := 8) (kw := appendD) (ase := aconsE (tupE (aconsE (up (var 4)) (aconsE (op2E joinD (up (cst (.str ""))) (lcE (rngE (aconsE (op2E addA (up (cst (.int 1))) (fnW 1 k__law_next (aconsE (up (cst (.int 3))) anilE))) anilE)) [10] (bN 10) yesTE (fnW 1 k__law_pick (aconsE (up (op2 ixA (var 3) (var 4))) anilE)))) anilE))) anilE) (ρ := [some (scr ns), some (Wd xs ((j + 1 : Nat) : Int)), some (nD a), some (gD T tD), some (.str t), t5, t6, t7, some (.list (W.map wD)), some (nD b), x10, t11, t12, t13, t14, t15, t16, t17, t18, t19, t20, t21, t22, t23, t24, t25, t26, t27, t28, t29, t30]) [some (scr ns), some (Wd xs i2), some (nD a), some (gD T tD), some (.str t), t5, t6, t7, some (.list (W.map wD)), some (nD b), x10, t11, t12, t13, t14, t15, t16, t17, t18, t19, t20, t21, t22, t23, t24, t25, t26, t27, t28, t29, t30] (ρ2 := [some (scr ns), some (Wd xs i2), some (nD a), some (gD T tD), some (.str t), t5, t6, t7, some (.list ((W ++ [(t, bs)]).map wD)), some (nD b), x10, t11, t12, t13, t14, t15, t16, t17, t18, t19, t20, t21, t22, t23, t24, t25, t26, t27, t28, t29, t30]) (xs0 := W.map wD) rfl (by
      rw [e_aconsE, e_tupE, e_aconsE, e_up, e_var, List.getElem?_cons_succ, List.getElem?_cons_succ, List.getElem?_cons_succ, List.getElem?_cons_succ, List.getElem?_cons_zero, Option.join_some, Option.bind_some, Option.bind_some, e_aconsE, e3]
      rfl) rfl ap rfl
    refine Ok.one (fl := .nx) (ρ1 := [some (scr ns), some (Wd xs i2), some (nD a), some (gD T tD), some (.str t), t5, t6, t7, some (.list ((W ++ [(t, bs)]).map wD)), some (nD b), x10, t11, t12, t13, t14, t15, t16, t17, t18, t19, t20, t21, t22, t23, t24, t25, t26, t27, t28, t29, t30]) (by rw [e_exprS, e4]; rfl) ⟨rfl, W ++ [(t, bs)], i2, _, _, _, rfl, by rw [List.length_append, hl]; rfl, fun p hp => ?_⟩
    rcases List.mem_append.mp hp with hp | hp
    · exact hW p hp
    · rw [List.mem_singleton.mp hp]
      exact ⟨ht, fun e => by rw [show bs = [] from e] at hbl; simp at hbl; omega, by show bs.length ≤ 3; omega, hP⟩
  · obtain ⟨W, j, x4, x9, x10, rfl, hl, hW⟩ := hi
    rw [List.length_range] at hl
    exact Ok.asg (nx_tupA rfl) (k W j x4 x9 x10 ⟨by omega, hW⟩)
/-- words in their row -/
theorem st_tongues (ns xs : List Int) (i a : Nat) (t3 t4 t5 t6 t7 t8 t9 t10 t11 t12 t13 t14 t15 t16 t17 t18 t19 t20 t21 t22 t23 t24 t25 t26 t27 t28 t29 t30 : Option D) {T : Tg} {W : List Wrd} (hT : TOk T) (hW : WOk T W) {row : List Str} (hr : ∀ t ∈ T.map (·.1), t ∈ row) (hrk : ∀ t ∈ row, PyData.canLay0 (.str t) = true) {s2 : PL.Env → Option (Fl × PL.Env)} {P : Fl → PL.Env → Prop}
    (k : ∀ (t11 : Option D), Ok s2 [some (scr ns), some (Wd xs i), some (nD a), some (gD T tD), t4, t5, t6, some (.tuple (row.map .str)), some (.tuple (W.map wD)), t9, t10, t11, t12, t13, t14, t15, t16, t17, t18, t19, t20, t21, t22, t23, t24, t25, t26, t27, t28, t29, t30] P) :
    Ok (seqS
    (asgS 11 (fn sortedA (acons (lc (rng (acons (fn lenD (acons (var 8) anil)) anil)) [9] (bN 9) yesT (tup (acons (op2 indexB (var 7) (op2 ixA (op2 ixA (var 8) (var 9)) (cst (.int 0)))) (acons (fn k__law_key (acons (op2 ixA (var 3) (op2 ixA (op2 ixA (var 8) (var 9)) (cst (.int 0)))) (acons (op2 ixA (op2 ixA (var 8) (var 9)) (cst (.int 1))) anil))) (acons (var 9) anil))))) anil)))
    (seqS
    (ifS (notT (tru (fn (k__law_same 12) (acons (fn k_by_tongues (acons (fn dictD (acons (var 3) anil)) (acons (var 7) (acons (var 8) anil)))) (acons (fn tupleD (acons (lc (anyI (var 11)) [12, 13, 9] (bT [12, 13, 9]) yesT (op2 ixA (var 8) (var 9))) anil)) anil)))))
    (retS (cst (.bool false)))
    nilS) s2)) [some (scr ns), some (Wd xs i), some (nD a), some (gD T tD), t4, t5, t6, some (.tuple (row.map .str)), some (.tuple (W.map wD)), t9, t10, t11, t12, t13, t14, t15, t16, t17, t18, t19, t20, t21, t22, t23, t24, t25, t26, t27, t28, t29, t30] P := by
  
  have hl := hW.len
  refine Ok.asg (d := .list ((sortT ((List.range W.length).map (row1 T row W))).map Datum.toD)) ?_ ?_
  · rw [ev_fn1 (lc_okAM (enc := nD) (row1 T row W) Datum.toD (List.range W.length) (nx_rng (nx_lenT (enc := wD) (l := W) rfl) (by omega)) fun q hq => ⟨_, rfl, rfl, ?_⟩)]
    · exact sort3 (by decide) _
    · have hq' := List.mem_range.mp hq
      obtain ⟨m1, _, _, m4⟩ := hW.mem _ (w_mem hq')
      refine nx_tup3 (x := nD (idx row (wAt W q).1)) (y := uD ((wAt W q).2.map (idx (al T (wAt W q).1)))) (z := nD q) ?_ ?_ rfl
      · rw [ev_op2 rfl (w_1 (w_ix hq' rfl rfl))]
        exact index_str row _ (hr _ m1) hrk
      · rw [ev_fn2 (t_ixd hT m1 rfl (w_1 (w_ix hq' rfl rfl))) (w_2 (w_ix hq' rfl rfl))]
        exact law_key_ok m4
  · refine Ok.skip (same_test (d := .tuple ((sortT ((List.range W.length).map (row1 T row W))).map fun r => wD (wAt W r.c))) ?_ (nx_tupL ?_) ?_) (k _)
    · rw [ev_fn3 (dT T tD rfl) rfl rfl]
      exact by_tongues_ok hT hW hr hrk
    · refine lc_okA (enc := Datum.toD) (fun r : R1 => wD (wAt W r.c)) (sortT ((List.range W.length).map (row1 T row W))) rfl fun r hr => ⟨_, rfl, rfl, ?_⟩
      obtain ⟨q, hq, rfl⟩ := List.mem_map.mp (sortT_mem.mp hr)
      exact w_ix (List.mem_range.mp hq) rfl rfl
    · exact sm_M _ (fun r hr => sm_2 (n := 10) trivial trivial) (by rw [sortT_length, List.length_map, List.length_range]; omega)
end LX

set_option Elab.async false
set_option linter.all false
set_option maxRecDepth 100000
namespace LX
open PySem PySem.Spec PyProof.Rows L2 PySem.W PL

section
variable {f g : PL.Env → Option D} {ρ : PL.Env} {ds : List D} {n : Nat}
theorem nx_take (hf : f ρ = some (.list ds)) (hg : g ρ = some (nD n)) : slc f noB (toB g) ρ = some (.list (ds.take n)) := by
  rw [e_slc, hf, Option.bind_some, e_noB, Option.bind_some, e_toB, hg]
  show some (PyData.list (cutD ds none (some (n : Int)))) = _
  rw [l_take]
theorem nx_drop (hf : f ρ = some (.list ds)) (hg : g ρ = some (nD n)) : slc f (toB g) noB ρ = some (.list (ds.drop n)) := by
  rw [e_slc, hf, Option.bind_some, e_toB, hg]
  show some (PyData.list (cutD ds (some (n : Int)) none)) = _
  rw [l_drop]
theorem Ok.dec {j a : Nat} {P : Fl → PL.Env → Prop} (h0 : var j ρ = some (nD (a + 1))) (k : P .nx (ρ.set j (some (nD a)))) : Ok (augN j (iopD fun i j => i - j) (up (cst (.int 1)))) ρ P := by
  refine Ok.one (fl := .nx) (ρ1 := ρ.set j (some (nD a))) ?_ k
  rw [e_augN, h0, Option.bind_some, e_up, e_cst, Option.bind_some, Option.bind_some]
  show (some (PyData.int (((a + 1 : Nat) : Int) - 1))).bind _ = _
  rw [show ((a + 1 : Nat) : Int) - 1 = (a : Int) by omega]
  rfl
end

abbrev partsD (T : Tg) (W : List Wrd) (n : Nat) : D := .list ((List.range n).map fun k => flD (fl T W k))
theorem st_line (ns xs : List Int) (i a : Nat) (t3 t4 t5 t6 t7 t8 t9 t10 t11 t12 t13 t14 t15 t16 t17 t18 t19 t20 t21 t22 t23 t24 t25 t26 t27 t28 t29 t30 : Option D) {T : Tg} {W : List Wrd} (hT : TOk T) (hW : WOk T W) {s2 : PL.Env → Option (Fl × PL.Env)} {P : Fl → PL.Env → Prop}
    (k : ∀ (t4 t9 t14 t15 t16 t17 : Option D), Ok s2 [some (scr ns), some (Wd xs i), some (nD a), some (gD T tD), t4, t5, t6, t7, some (.tuple (W.map wD)), t9, t10, t11, t12, t13, t14, t15, t16, t17, t18, t19, t20, t21, t22, t23, t24, t25, t26, t27, t28, t29, t30] P) :
    Ok (seqS
    (asgS 14 (lst anil))
    (seqS
    (forS (anyI (var 8)) (bT [4, 15])
    (exprS (mutL 14 appendD (aconsE (up (lc (anyI (fn k__law_key (acons (op2 ixA (var 3) (var 4)) (acons (var 15) anil)))) [12] (bN 12) yesT (fn k__law_fraction (acons (var 12) (acons (fn lenD (acons (op2 ixA (var 3) (var 4)) anil)) anil))))) anilE))))
    (seqS
    (asgS 16 (lst anil))
    (seqS
    (forS (rng (acons (fn lenD (acons (var 8) anil)) anil)) (bN 9)
    (seqS
    (asgS 17 (fn lenD (acons (var 16) anil)))
    (seqS
    (whileF (andT (tru (op2 (bD gtB) (var 17) (cst (.int 0)))) (orT (tru (fn k__law_ahead (acons (op2 ixA (var 14) (var 9)) (acons (op2 ixA (var 14) (op2 ixA (var 16) (op2 subD (var 17) (cst (.int 1))))) anil)))) (andT (tru (op2 (bD eqB) (op2 ixA (var 14) (var 9)) (op2 ixA (var 14) (op2 ixA (var 16) (op2 subD (var 17) (cst (.int 1))))))) (tru (op2 (bD ltB) (op2 ixA (op2 ixA (var 8) (var 9)) (cst (.int 0))) (op2 ixA (op2 ixA (var 8) (op2 ixA (var 16) (op2 subD (var 17) (cst (.int 1))))) (cst (.int 0))))))))
    (augN 17 (iopD fun i j => i - j) (up (cst (.int 1)))) 1000)
    (asgS 16 (op2 addA (op2 addA (slc (var 16) noB (toB (var 17))) (lst (acons (var 9) anil))) (slc (var 16) (toB (var 17)) noB))))))
    (seqS
    (ifS (notT (tru (fn (k__law_same 12) (acons (fn k_all_in_one (acons (fn dictD (acons (var 3) anil)) (acons (var 8) anil))) (acons (fn tupleD (acons (lc (anyI (var 16)) [9] (bN 9) yesT (op2 ixA (var 8) (var 9))) anil)) anil)))))
    (retS (cst (.bool false)))
    nilS) s2))))) [some (scr ns), some (Wd xs i), some (nD a), some (gD T tD), t4, t5, t6, t7, some (.tuple (W.map wD)), t9, t10, t11, t12, t13, t14, t15, t16, t17, t18, t19, t20, t21, t22, t23, t24, t25, t26, t27, t28, t29, t30] P := by
  
  have hl := hW.len
  refine Ok.asg (d := .list []) rfl ?_
  refine Ok.seq (Ok.forSi (enc := wD) (fun n ρ => ∃ x4 x15, ρ = [some (scr ns), some (Wd xs i), some (nD a), some (gD T tD), x4, t5, t6, t7, some (.tuple (W.map wD)), t9, t10, t11, t12, t13, some (partsD T W n), x15, t16, t17, t18, t19, t20, t21, t22, t23, t24, t25, t26, t27, t28, t29, t30]) W rfl (fun n p hp ρ hi => ?_) ⟨_, _, rfl⟩) fun ρ1 hi => ?_
  · obtain ⟨x4, x15, rfl⟩ := hi
    have hn := (List.getElem?_eq_some_iff.mp hp).1
    have hpw : p = wAt W n := by
      have := w_get hn
      rw [hp] at this
      exact Option.some.inj this
    obtain ⟨m1, _, _, m4⟩ := hW.mem _ (w_mem hn)
    rw [← hpw] at m1 m4
    have hal := al_len hT m1
    have hap : 0 < (al T p.1).length := List.length_pos_iff.mpr (hT.al _ (al_get hT m1).2).2.1
    refine ⟨[some (scr ns), some (Wd xs i), some (nD a), some (gD T tD), some (.str p.1), t5, t6, t7, some (.tuple (W.map wD)), t9, t10, t11, t12, t13, some (partsD T W n), some (tD p.2), t16, t17, t18, t19, t20, t21, t22, t23, t24, t25, t26, t27, t28, t29, t30], rfl, ?_⟩
    refine Ok.app1 (ds := (List.range n).map fun k => flD (fl T W k)) (v := flD (fl T W n)) rfl ?_ (by rw [List.length_map, List.length_range]; omega) ⟨rfl, some (.str p.1), some (tD p.2), ?_⟩
    · have q := lc_okAM (enc := nD) (it := anyI (fn k__law_key (acons (op2 ixA (var 3) (var 4)) (acons (var 15) anil)))) (vs := [12]) (bnd := bN 12) (tt := yesT) (te := fn k__law_fraction (acons (var 12) (acons (fn lenD (acons (op2 ixA (var 3) (var 4)) anil)) anil))) (ρ := [some (scr ns), some (Wd xs i), some (nD a), some (gD T tD), some (.str p.1), t5, t6, t7, some (.tuple (W.map wD)), t9, t10, t11, t12, t13, some (partsD T W n), some (tD p.2), t16, t17, t18, t19, t20, t21, t22, t23, t24, t25, t26, t27, t28, t29, t30]) (fun c => fr c (al T p.1).length) frD (p.2.map (idx (al T p.1))) (by
        show (fn k__law_key _ _).bind itemsA = _
        rw [ev_fn2 (t_ixd hT m1 rfl rfl) rfl, law_key_ok m4]
        rfl) (fun c hc => ⟨_, rfl, rfl, by
        obtain ⟨e, he, rfl⟩ := List.mem_map.mp hc
        have hlt := idx_lt (m4 e he)
        rw [ev_fn2 (x := nD (idx (al T p.1) e)) (y := nD (al T p.1).length) rfl (by rw [ev_fn1 (t_ixd hT m1 rfl rfl)]; exact t_len _)]
        exact fr_ok (by omega) (by omega) hap⟩)
      rw [q, hpw]
      rfl
    · have e : partsD T W (n + 1) = .list ((List.range n).map (fun k => flD (fl T W k)) ++ [flD (fl T W n)]) := by
        show PyData.list _ = _
        rw [List.range_succ, List.map_append]
        rfl
      rw [e]
      rfl
  obtain ⟨x4, x15, rfl⟩ := hi
  refine Ok.asg (d := .list []) rfl ?_
  refine Ok.seq (Ok.forSi (enc := nD) (fun n ρ => ∃ (L : List Nat) (x9 x17 : Option D), ρ = [some (scr ns), some (Wd xs i), some (nD a), some (gD T tD), x4, t5, t6, t7, some (.tuple (W.map wD)), x9, t10, t11, t12, t13, some (partsD T W W.length), x15, some (lD L), x17, t18, t19, t20, t21, t22, t23, t24, t25, t26, t27, t28, t29, t30] ∧ Line T W n L) (List.range W.length) (nx_rng (nx_lenT (enc := wD) (l := W) rfl) (by omega)) (fun j n hn ρ hi => ?_) ⟨[], _, _, rfl, ⟨List.Perm.refl _, List.Pairwise.nil⟩⟩) fun ρ1 hi => ?_
  · obtain ⟨L, x9, x17, rfl, hL⟩ := hi
    obtain ⟨rfl, hn'⟩ := range_get hn
    have hll : L.length = n := by have := hL.perm.length_eq; rw [List.length_range] at this; exact this
    refine ⟨[some (scr ns), some (Wd xs i), some (nD a), some (gD T tD), x4, t5, t6, t7, some (.tuple (W.map wD)), some (nD n), t10, t11, t12, t13, some (partsD T W W.length), x15, some (lD L), x17, t18, t19, t20, t21, t22, t23, t24, t25, t26, t27, t28, t29, t30], rfl, ?_⟩
    refine Ok.asg (d := nD L.length) (nx_len (enc := nD) (l := L) rfl) ?_
    refine Ok.seq (I := fun ρ => ∃ b : Nat, ρ = [some (scr ns), some (Wd xs i), some (nD a), some (gD T tD), x4, t5, t6, t7, some (.tuple (W.map wD)), some (nD n), t10, t11, t12, t13, some (partsD T W W.length), x15, some (lD L), some (nD b), t18, t19, t20, t21, t22, t23, t24, t25, t26, t27, t28, t29, t30] ∧ b ≤ L.length ∧ (∀ j, b ≤ j → ∀ v, L[j]? = some v → putAhead T W n v = true) ∧ (b = 0 ∨ ∃ v, L[b - 1]? = some v ∧ putAhead T W n v = false)) (Ok.wh1 (I := fun m ρ => ρ = [some (scr ns), some (Wd xs i), some (nD a), some (gD T tD), x4, t5, t6, t7, some (.tuple (W.map wD)), some (nD n), t10, t11, t12, t13, some (partsD T W W.length), x15, some (lD L), some (nD m), t18, t19, t20, t21, t22, t23, t24, t25, t26, t27, t28, t29, t30] ∧ m ≤ L.length ∧ ∀ j, m ≤ j → ∀ v, L[j]? = some v → putAhead T W n v = true) (Q := fun ρ => ∃ b : Nat, ρ = [some (scr ns), some (Wd xs i), some (nD a), some (gD T tD), x4, t5, t6, t7, some (.tuple (W.map wD)), some (nD n), t10, t11, t12, t13, some (partsD T W W.length), x15, some (lD L), some (nD b), t18, t19, t20, t21, t22, t23, t24, t25, t26, t27, t28, t29, t30] ∧ b ≤ L.length ∧ (∀ j, b ≤ j → ∀ v, L[j]? = some v → putAhead T W n v = true) ∧ (b = 0 ∨ ∃ v, L[b - 1]? = some v ∧ putAhead T W n v = false)) (fun m ρ hi => ?_) (n := L.length) (by omega) ⟨rfl, Nat.le_refl _, fun j hj v hv => by rw [List.getElem?_eq_none hj] at hv; cases hv⟩) fun ρ1 hi => ?_
    · obtain ⟨rfl, hm, hall⟩ := hi
      cases m with
      | zero => exact .inl ⟨nx_and (r := false) (r2 := false) (nx_gt (a := 0) (b := 0) rfl rfl) (fun x => by cases x), 0, rfl, hm, hall, .inl rfl⟩
      | succ m =>
        have hv : L[m]? = some L[m] := List.getElem?_eq_getElem (by omega)
        have hvlt : L[m] < n := List.mem_range.mp (hL.perm.mem_iff.mp (List.getElem_mem _))
        generalize L[m] = v at hv hvlt
        have p1 : op2 ixA (var 14) (var 9) [some (scr ns), some (Wd xs i), some (nD a), some (gD T tD), x4, t5, t6, t7, some (.tuple (W.map wD)), some (nD n), t10, t11, t12, t13, some (partsD T W W.length), x15, some (lD L), some (nD (m + 1)), t18, t19, t20, t21, t22, t23, t24, t25, t26, t27, t28, t29, t30] = some (flD (fl T W n)) := nx_ix (enc := fun k => flD (fl T W k)) rfl rfl (List.getElem?_range hn')
        have p2 : op2 ixA (var 16) (op2 subD (var 17) (cst (.int 1))) [some (scr ns), some (Wd xs i), some (nD a), some (gD T tD), x4, t5, t6, t7, some (.tuple (W.map wD)), some (nD n), t10, t11, t12, t13, some (partsD T W W.length), x15, some (lD L), some (nD (m + 1)), t18, t19, t20, t21, t22, t23, t24, t25, t26, t27, t28, t29, t30] = some (nD v) := nx_ix (enc := nD) (i := m) rfl (nx_sub (a := m + 1) (b := 1) rfl rfl (by omega)) hv
        have p3 : op2 ixA (var 14) (op2 ixA (var 16) (op2 subD (var 17) (cst (.int 1)))) [some (scr ns), some (Wd xs i), some (nD a), some (gD T tD), x4, t5, t6, t7, some (.tuple (W.map wD)), some (nD n), t10, t11, t12, t13, some (partsD T W W.length), x15, some (lD L), some (nD (m + 1)), t18, t19, t20, t21, t22, t23, t24, t25, t26, t27, t28, t29, t30] = some (flD (fl T W v)) := nx_ix (enc := fun k => flD (fl T W k)) rfl p2 (List.getElem?_range (by omega))
        have f1 := fl_le hT hW hn'
        have f2 := fl_le hT hW (k := v) (by omega)
        have tt := nx_and (t := tru (op2 (bD gtB) (var 17) (cst (.int 0)))) (ρ := [some (scr ns), some (Wd xs i), some (nD a), some (gD T tD), x4, t5, t6, t7, some (.tuple (W.map wD)), some (nD n), t10, t11, t12, t13, some (partsD T W W.length), x15, some (lD L), some (nD (m + 1)), t18, t19, t20, t21, t22, t23, t24, t25, t26, t27, t28, t29, t30]) (r := true) (nx_gt (a := m + 1) (b := 0) rfl rfl) fun _ => nx_or (r := ahead (fl T W n) (fl T W v)) (nx_tru (f := fn k__law_ahead (acons (op2 ixA (var 14) (var 9)) (acons (op2 ixA (var 14) (op2 ixA (var 16) (op2 subD (var 17) (cst (.int 1))))) anil))) (by rw [ev_fn2 p1 p3]; exact ahead_ok f1.1 f2.1 f1.2 f2.2)) fun _ => nx_and (r := decide (fl T W n = fl T W v)) (nx_ct (f := op2 ixA (var 14) (var 9)) (g := op2 ixA (var 14) (op2 ixA (var 16) (op2 subD (var 17) (cst (.int 1))))) p1 p3 (eq_dat (α := List Fr) (by decide) (fl T W n) (fl T W v))) fun _ => nx_ct (f := op2 ixA (op2 ixA (var 8) (var 9)) (cst (.int 0))) (g := op2 ixA (op2 ixA (var 8) (op2 ixA (var 16) (op2 subD (var 17) (cst (.int 1))))) (cst (.int 0))) (w_1 (w_ix hn' rfl rfl)) (w_1 (w_ix (k := v) (by omega) rfl p2)) (v_ltS _ _)
        have te : (true && (ahead (fl T W n) (fl T W v) || (decide (fl T W n = fl T W v) && DatumOrd.lt (wAt W n).1 (wAt W v).1))) = putAhead T W n v := Bool.true_and _
        rw [te] at tt
        cases hp : putAhead T W n v with
        | false =>
          rw [hp] at tt
          exact .inl ⟨tt, m + 1, rfl, hm, hall, .inr ⟨v, hv, hp⟩⟩
        | true =>
          rw [hp] at tt
          refine .inr ⟨tt, Ok.dec (a := m) rfl ⟨rfl, m, Nat.lt_succ_self m, rfl, by omega, fun j hj u hu => ?_⟩⟩
          rcases Nat.lt_or_ge m j with h | h
          · exact hall j h u hu
          · have : j = m := by omega
            subst this
            rw [hv] at hu
            cases hu
            exact hp
    · obtain ⟨b, rfl, hb, h1, h2⟩ := hi
      refine Ok.asg1 (d := lD (L.take b ++ [n] ++ L.drop b)) ?_ ⟨rfl, _, some (nD n), some (nD b), rfl, line_ins hT hW hn' hL hb h1 h2⟩
      refine (nx_catL (xs := (L.map nD).take b ++ [nD n]) (ys := (L.map nD).drop b) (nx_catL (nx_take rfl rfl) (nx_lst1 rfl) ?_) (nx_drop rfl rfl) ?_).trans ?_
      · rw [List.length_take, List.length_map]
        show _ + 1 ≤ _
        omega
      · rw [List.length_append, List.length_take, List.length_drop, List.length_map]
        show _ + 1 + _ ≤ _
        omega
      · show _ = some (PyData.list (List.map nD _))
        rw [List.map_append, List.map_append, List.map_take, List.map_drop]
        rfl
  obtain ⟨L, x9, x17, rfl, hL⟩ := hi
  rw [List.length_range] at hL
  refine Ok.skip (same_test (d := .tuple (L.map fun k => wD (wAt W k))) ?_ (nx_tupL ?_) ?_) (k _ _ _ _ _ _)
  · rw [ev_fn2 (dT T tD rfl) rfl, all_in_one_ok hT hW, line_done hL]
  · exact lc_okA (enc := nD) (fun k => wD (wAt W k)) L rfl fun q hq => ⟨_, rfl, rfl, w_ix (List.mem_range.mp (hL.perm.mem_iff.mp hq)) rfl rfl⟩
  · exact sm_M _ (fun r hr => sm_2 (n := 10) trivial trivial) (by have := hL.perm.length_eq; rw [List.length_range] at this; omega)
end LX

set_option Elab.async false
set_option linter.all false
set_option maxRecDepth 100000
namespace LX
open PySem PySem.Spec PyProof.Rows L2 PySem.W PL

theorem w_range (W : List Wrd) : (List.range W.length).map (wAt W) = W := by
  refine List.ext_getElem (by simp) fun n h1 h2 => ?_
  rw [List.getElem_map, List.getElem_range]
  have := w_get h2
  rw [List.getElem?_eq_getElem h2] at this
  exact (Option.some.inj this).symm
theorem Ok.pass {t : PL.Env → Option Bool} {s : PL.Env → Option (Fl × PL.Env)} {ρ : PL.Env} {P : Fl → PL.Env → Prop} (h : t ρ = some false) (p : P .nx ρ) : Ok (ifS t s nilS) ρ P := Ok.if h (fun x => by cases x) fun _ => Ok.nil p

/-- the tables -/
theorem st_tables (ns xs : List Int) (i a : Nat) (t3 t4 t5 t6 t7 t8 t9 t10 t11 t12 t13 t14 t15 t16 t17 t18 t19 t20 t21 t22 t23 t24 t25 t26 t27 t28 t29 t30 : Option D) {T : Tg} (hT : TOk T) {s2 : PL.Env → Option (Fl × PL.Env)} {P : Fl → PL.Env → Prop}
    (k : ∀ (X : TT) (i' : Nat) (t4 t6 : Option D), XOk T X → X.length ≤ 3 → Ok s2 [some (scr ns), some (Wd xs i'), some (nD a), some (gD T tD), t4, t5, t6, t7, t8, t9, t10, t11, t12, t13, t14, t15, t16, t17, some (xD X), t19, t20, t21, t22, t23, t24, t25, t26, t27, t28, t29, t30] P) :
    Ok (seqS
    (asgS 18 dnil)
    (seqS
    (forS (anyI (var 3)) (bN 4)
    (putS 18 (up (var 4)) (fnE dictD (aconsE (lcE (up (anyI (cst (.str "abcde")))) [6] (bN 6) (truE (op2E (bD eqB) (fnW 1 k__law_next (aconsE (up (cst (.int 3))) anilE)) (up (cst (.int 0))))) (tupE (aconsE (up (var 6)) (aconsE (fnW 1 k__law_pick (aconsE (up (lst (acons (cst (.str "a")) (acons (cst (.str "ae")) (acons (cst (.str "ch")) (acons (cst (.str "b")) (acons (cst (.str "c")) anil))))))) anilE)) anilE)))) anilE)))) s2)) [some (scr ns), some (Wd xs i), some (nD a), some (gD T tD), t4, t5, t6, t7, t8, t9, t10, t11, t12, t13, t14, t15, t16, t17, t18, t19, t20, t21, t22, t23, t24, t25, t26, t27, t28, t29, t30] P := by
  refine Ok.asg (d := .dict []) rfl ?_
  refine Ok.seq (Ok.forSi (enc := fun p : Str × List Nat => PyData.str p.1) (fun n ρ => ∃ (X : TT) (j : Nat) (x4 x6 : Option D), ρ = [some (scr ns), some (Wd xs j), some (nD a), some (gD T tD), x4, t5, x6, t7, t8, t9, t10, t11, t12, t13, t14, t15, t16, t17, some (xD X), t19, t20, t21, t22, t23, t24, t25, t26, t27, t28, t29, t30] ∧ X.map (·.1) = (T.take n).map (·.1) ∧ ∀ q ∈ X, MOk q.2) T (t_itemsS hT rfl) (fun n p hp ρ hi => ?_) ⟨[], _, _, _, rfl, rfl, fun q hq => nomatch hq⟩) fun ρ1 hi => ?_
  · obtain ⟨X, j, x4, x6, rfl, hX, hM⟩ := hi
    obtain ⟨M, j2, e1, hMk⟩ := table_draw (fun j => [some (scr ns), some (Wd xs j), some (nD a), some (gD T tD), some (.str p.1), t5, none, t7, t8, t9, t10, t11, t12, t13, t14, t15, t16, t17, some (xD X), t19, t20, t21, t22, t23, t24, t25, t26, t27, t28, t29, t30]) xs j (ρ := [some (scr ns), some (Wd xs j), some (nD a), some (gD T tD), some (.str p.1), t5, x6, t7, t8, t9, t10, t11, t12, t13, t14, t15, t16, t17, some (xD X), t19, t20, t21, t22, t23, t24, t25, t26, t27, t28, t29, t30]) rfl (fun _ _ => rfl) (fun _ _ => rfl) (fun _ _ => rfl) (fun _ _ => rfl) (fun _ _ => rfl)
    have hn := (List.getElem?_eq_some_iff.mp hp)
    obtain ⟨hn, hpe⟩ := hn
    have hXl : X.length = n := by
      have := congrArg List.length hX
      rw [List.length_map, List.length_map, List.length_take] at this
      omega
    have hnot : p.1 ∉ X.map (·.1) := by
      rw [hX]
      intro hm
      have hnd := hT.nd
      rw [← List.take_append_drop n T, List.map_append] at hnd
      have hd : p.1 ∈ (T.drop n).map (·.1) := by
        rw [List.drop_eq_getElem_cons hn, hpe]
        exact List.mem_cons_self
      exact (List.nodup_append.mp hnd).2.2 _ hm _ hd rfl
    refine ⟨_, rfl, ?_⟩
    refine Ok.putE (v := mD M) (k := .str p.1) (d := xD X) (d' := xD (X ++ [(p.1, M)])) (ρ1 := [some (scr ns), some (Wd xs j2), some (nD a), some (gD T tD), some (.str p.1), t5, x6, t7, t8, t9, t10, t11, t12, t13, t14, t15, t16, t17, some (xD X), t19, t20, t21, t22, t23, t24, t25, t26, t27, t28, t29, t30]) e1 rfl rfl ?_ ⟨rfl, X ++ [(p.1, M)], j2, some (.str p.1), x6, rfl, ?_, fun q hq => ?_⟩
    · refine (gd_put (κ := Str) X mD p.1 M (by have := hT.len; omega)).trans ?_
      rw [gput_new hnot]
    · rw [List.map_append, hX, List.take_succ, hp, List.map_append]
      rfl
    · rcases List.mem_append.mp hq with hq | hq
      · exact hM q hq
      · rw [List.mem_singleton.mp hq]
        exact hMk
  · obtain ⟨X, j, x4, x6, rfl, hX, hM⟩ := hi
    rw [List.take_length] at hX
    exact k X j x4 x6 ⟨hX, hM⟩ (by
      have := congrArg List.length hX
      rw [List.length_map, List.length_map] at this
      rw [this]
      exact hT.len)
section
variable {T : Tg} {W : List Wrd} {X : TT}
theorem tb_ix (hT : TOk T) (hX : XOk T X) {t : Str} (ht : t ∈ T.map (·.1)) {f g : PL.Env → Option D} {ρ : PL.Env} (hf : f ρ = some (xD X)) (hg : g ρ = some (.str t)) : op2 ixA f g ρ = some (mD (tb X t)) := by
  rw [ev_op2 hf hg]
  refine (gd_ix (κ := Str) X mD t).trans ?_
  rw [(tb_get hT hX ht).1]
  rfl
end
/-- what is written -/
theorem st_told (ns xs : List Int) (i a : Nat) (t3 t4 t5 t6 t7 t8 t9 t10 t11 t12 t13 t14 t15 t16 t17 t18 t19 t20 t21 t22 t23 t24 t25 t26 t27 t28 t29 t30 : Option D) {T : Tg} {W : List Wrd} {X : TT} (hT : TOk T) (hW : WOk T W) (hX : XOk T X) {s2 : PL.Env → Option (Fl × PL.Env)} {P : Fl → PL.Env → Prop}
    (k : ∀ (t9 t11 t21 : Option D), Ok s2 [some (scr ns), some (Wd xs i), some (nD a), t3, t4, t5, t6, t7, some (.tuple (W.map wD)), t9, t10, t11, t12, t13, t14, t15, t16, t17, some (xD X), some (ltD (W.map (told X))), t20, t21, t22, t23, t24, t25, t26, t27, t28, t29, t30] P) :
    Ok (seqS
    (asgS 19 (lc (anyI (var 8)) [4, 15] (bT [4, 15]) yesT (fn k__law_written (acons (op2 ixA (var 18) (var 4)) (acons (var 15) anil)))))
    (seqS
    (forS (rng (acons (fn lenD (acons (var 8) anil)) anil)) (bN 9)
    (ifS (notT (tru (fn (k__law_same 12) (acons (fn k_written_in (acons (fn dictD (acons (op2 ixA (var 18) (op2 ixA (op2 ixA (var 8) (var 9)) (cst (.int 0)))) anil)) (acons (op2 ixA (op2 ixA (var 8) (var 9)) (cst (.int 1))) anil))) (acons (op2 ixA (var 19) (var 9)) anil)))))
    (retS (cst (.bool false)))
    nilS))
    (seqS
    (asgS 11 (fn sortedA (acons (lc (rng (acons (fn lenD (acons (var 8) anil)) anil)) [9] (bN 9) yesT (tup (acons (op2 ixA (var 19) (var 9)) (acons (op2 ixA (op2 ixA (var 8) (var 9)) (cst (.int 0))) (acons (op2 ixA (op2 ixA (var 8) (var 9)) (cst (.int 1))) anil))))) anil)))
    (seqS
    (ifS (notT (tru (fn (k__law_same 12) (acons (fn k_by_writing (acons (fn dictD (acons (var 18) anil)) (acons (var 8) anil))) (acons (fn tupleD (acons (lc (anyI (var 11)) [20, 4, 15] (bT [20, 4, 15]) yesT (tup (acons (var 4) (acons (var 15) anil)))) anil)) anil)))))
    (retS (cst (.bool false)))
    nilS)
    (seqS
    (asgS 21 (lc (anyI (op1 sortSetD (var 19))) [20] (bN 20) yesT (fn tupleD (acons (lc (rng (acons (fn lenD (acons (var 19) anil)) anil)) [9] (bN 9) (tru (op2 (bD eqB) (op2 ixA (var 19) (var 9)) (var 20))) (var 9)) anil))))
    (seqS
    (ifS (notT (tru (fn (k__law_same 12) (acons (fn k_clashes_of (acons (fn dictD (acons (var 18) anil)) (acons (var 8) anil))) (acons (fn tupleD (acons (fn sortedA (acons (lc (anyI (var 21)) [22] (bN 22) (tru (op2 (bD gtB) (fn lenD (acons (var 22) anil)) (cst (.int 1)))) (var 22)) anil)) anil)) anil)))))
    (retS (cst (.bool false)))
    nilS) s2)))))) [some (scr ns), some (Wd xs i), some (nD a), t3, t4, t5, t6, t7, some (.tuple (W.map wD)), t9, t10, t11, t12, t13, t14, t15, t16, t17, some (xD X), t19, t20, t21, t22, t23, t24, t25, t26, t27, t28, t29, t30] P := by
  
  have hl := hW.len
  have htold : ∀ q, q < W.length → (W.map (told X))[q]? = some (told X (wAt W q)) := fun q hq => by rw [List.getElem?_map, w_get hq]; rfl
  refine Ok.asg (d := ltD (W.map (told X))) (lc_okAM (enc := wD) (told X) tD W rfl fun p hp => ⟨_, rfl, rfl, ?_⟩) ?_
  · have m := hW.mem _ hp
    rw [ev_fn2 (tb_ix hT hX m.1 rfl rfl) (y := tD p.2) rfl]
    exact law_written_ok (tb_ok hT hX m.1) (by have := m.2.2.1; omega)
  show Ok _ [some (scr ns), some (Wd xs i), some (nD a), t3, t4, t5, t6, t7, some (.tuple (W.map wD)), t9, t10, t11, t12, t13, t14, t15, t16, t17, some (xD X), some (ltD (W.map (told X))), t20, t21, t22, t23, t24, t25, t26, t27, t28, t29, t30] _
  
  refine Ok.seq (Ok.forSi (enc := nD) (fun n ρ => ∃ x9, ρ = [some (scr ns), some (Wd xs i), some (nD a), t3, t4, t5, t6, t7, some (.tuple (W.map wD)), x9, t10, t11, t12, t13, t14, t15, t16, t17, some (xD X), some (ltD (W.map (told X))), t20, t21, t22, t23, t24, t25, t26, t27, t28, t29, t30]) (List.range W.length) (nx_rng (nx_lenT (enc := wD) (l := W) rfl) (by omega)) (fun j n hn ρ hi => ?_) ⟨_, rfl⟩) fun ρ1 hi => ?_
  · obtain ⟨x9, rfl⟩ := hi
    obtain ⟨rfl, hn'⟩ := range_get hn
    have m := hW.mem _ (w_mem hn')
    refine ⟨[some (scr ns), some (Wd xs i), some (nD a), t3, t4, t5, t6, t7, some (.tuple (W.map wD)), some (nD n), t10, t11, t12, t13, t14, t15, t16, t17, some (xD X), some (ltD (W.map (told X))), t20, t21, t22, t23, t24, t25, t26, t27, t28, t29, t30], rfl, Ok.pass (same_test (d := tD (told X (wAt W n))) ?_ (nx_ix (enc := tD) rfl rfl (htold n hn')) trivial) ⟨rfl, _, rfl⟩⟩
    rw [ev_fn2 (dM _ (tb_ix hT hX m.1 rfl (w_1 (w_ix hn' rfl rfl)))) (w_2 (w_ix hn' rfl rfl))]
    exact written_ok (tb_ok hT hX m.1) (by have := m.2.2.1; omega)
  obtain ⟨x9, rfl⟩ := hi
  have e3 : (List.range W.length).map (fun q => row3 X (wAt W q)) = W.map (row3 X) := by
    have := congrArg (List.map (row3 X)) (w_range W)
    rw [List.map_map] at this
    exact this
  refine Ok.asg (d := .list ((sortT (W.map (row3 X))).map Datum.toD)) ?_ ?_
  · rw [ev_fn1 (lc_okAM (enc := nD) (fun q => row3 X (wAt W q)) Datum.toD (List.range W.length) (nx_rng (nx_lenT (enc := wD) (l := W) rfl) (by omega)) fun q hq => ⟨_, rfl, rfl, ?_⟩)]
    · rw [e3]
      exact sort3 (by decide) _
    · have hq' := List.mem_range.mp hq
      exact nx_tup3 (x := tD (told X (wAt W q))) (y := .str (wAt W q).1) (z := tD (wAt W q).2) (nx_ix (enc := tD) rfl rfl (htold q hq')) (w_1 (w_ix hq' rfl rfl)) (w_2 (w_ix hq' rfl rfl))
  refine Ok.skip (same_test (d := byW X W) ?_ (nx_tupL (lc_okA (enc := Datum.toD) (fun r : R3 => PyData.tuple [.str r.b, .str r.c]) (sortT (W.map (row3 X))) rfl fun r hr => ⟨_, rfl, rfl, nx_tup2 rfl rfl⟩)) (sm_M _ (fun r hr => sm_2 (n := 10) trivial trivial) (by rw [sortT_length, List.length_map]; omega))) ?_
  · rw [ev_fn2 (dT X mD rfl) rfl]
    exact by_writing_ok hT hW hX
  have ek : (List.range W.length).map (txt X W) = (W.map (told X)).map tx := by
    have := congrArg (List.map fun p => tx (told X p)) (w_range W)
    rw [List.map_map] at this
    rw [List.map_map]
    exact this
  let LL : List (List Nat) := (sset ((List.range W.length).map (txt X W))).map fun t => (List.range W.length).filter fun k => decide (txt X W k = t)
  refine Ok.asg (d := .list (LL.map uD)) ?_ ?_
  · refine lc_okAM (enc := PyData.str) (fun t => (List.range W.length).filter fun k => decide (txt X W k = t)) uD (sset ((List.range W.length).map (txt X W))) ?_ fun t ht => ⟨_, rfl, rfl, nx_tupL ?_⟩
    · show (sortSetD (.list ((W.map (told X)).map tD))).bind itemsA = _
      have q := v_ssetL ((W.map (told X)).map tx) (fun x hx => by
        obtain ⟨l, hl, rfl⟩ := List.mem_map.mp hx
        obtain ⟨p, hp, rfl⟩ := List.mem_map.mp hl
        have := told_len hT hW hX hp
        rw [tx_len]
        omega) (by rw [List.length_map, List.length_map]; omega)
      have e : ((W.map (told X)).map tx).map (Datum.toD (α := Str)) = (W.map (told X)).map tD := by rw [List.map_map]; rfl
      rw [e] at q
      rw [q, ek]
      rfl
    · refine lc_ok (enc := nD) (fun q => decide (txt X W q = t)) nD (List.range W.length) (nx_rng ((nx_len (enc := tD) (l := W.map (told X)) rfl).trans (by rw [List.length_map])) (by omega)) fun q hq => ⟨_, rfl, ?_, fun _ => rfl⟩
      exact nx_ct (nx_ix (enc := tD) rfl rfl (htold q (List.mem_range.mp hq))) rfl (eq_dat (α := Str) (by decide) (txt X W q) t)
  refine Ok.skip (same_test (d := clashD X W) ?_ (nx_tupL ?_) ?_) (k _ _ _)
  · rw [ev_fn2 (dT X mD rfl) rfl]
    exact clashes_ok hT hW hX
  · have e1 := lc_ok (enc := uD) (it := anyI (var 21)) (vs := [22]) (bnd := bN 22) (tt := tru (op2 (bD gtB) (fn lenD (acons (var 22) anil)) (cst (.int 1)))) (te := var 22) (ρ := [some (scr ns), some (Wd xs i), some (nD a), t3, t4, t5, t6, t7, some (.tuple (W.map wD)), x9, t10, some (.list ((sortT (W.map (row3 X))).map Datum.toD)), t12, t13, t14, t15, t16, t17, some (xD X), some (ltD (W.map (told X))), t20, some (.list (LL.map uD)), t22, t23, t24, t25, t26, t27, t28, t29, t30]) (fun x => decide (1 < x.length)) uD LL rfl fun l hl => ⟨_, rfl, nx_gt (nx_lenT (enc := nD) (l := l) rfl) rfl, fun _ => rfl⟩
    have e2 : (LL.filter fun x => decide (1 < x.length)).map uD = (many LL).map Datum.toD := by
      show _ = List.map _ (List.map _ _)
      rw [List.map_map]
      rfl
    rw [e2] at e1
    refine (ev_fn1 e1).trans ?_
    exact v_sorted (by decide) (.inl (many_tup _))
  · refine sm_M (n := 11) _ (fun t ht => ?_) ?_
    · obtain ⟨l, hl, rfl⟩ := List.mem_map.mp (sortT_mem.mp ht)
      have hl' := (List.mem_filter.mp hl).1
      obtain ⟨s, hs, rfl⟩ := List.mem_map.mp hl'
      exact sm_M (n := 10) (enc := nD) _ (fun _ _ => trivial) (Nat.le_trans (List.length_filter_le _ _) (by rw [List.length_range]; omega))
    · rw [sortT_length, List.length_map]
      refine Nat.le_trans (List.length_filter_le _ _) ?_
      rw [List.length_map]
      have := sset_length ((List.range W.length).map (txt X W))
      rw [List.length_map, List.length_range] at this
      omega
end LX

set_option Elab.async false
set_option linter.all false
set_option maxRecDepth 100000
namespace LX
open PySem PySem.Spec PyProof.Rows L2 PySem.W PL

/-- a tongue drawn -/
theorem pick_tongue {T : Tg} (hT : TOk T) (xs : List Int) (i : Nat) {ρ : PL.Env} (h1 : var 1 ρ = some (Wd xs i)) (h3 : var 3 ρ = some (gD T tD)) : ∃ t, t ∈ T.map (·.1) ∧ fnW 1 k__law_pick (aconsE (up (fn listA (acons (var 3) anil))) anilE) ρ = some (.str t, ρ.set 1 (some (Wd xs ((i + 1 : Nat) : Int)))) := by
  have hkl : ∀ p ∈ T, p.1.length ≤ 16777216 := fun p hp => by have := hT.key p hp; omega
  have e1 := gd_lstS (f := var 3) (ρ := ρ) T tD hT.ne hkl h3
  obtain ⟨v, hv, ep⟩ := pick_list xs i (T.map fun p => PyData.str p.1) (by simpa using hT.ne)
  obtain ⟨p, hp, rfl⟩ := List.mem_map.mp hv
  exact ⟨p.1, List.mem_map_of_mem hp, fw_pick (j := 1) (xs := xs) (i := i) h1 (by rw [e_aconsE, e_up, e1]; rfl) ep⟩

theorem st_clean (ns xs : List Int) (i a : Nat) (t3 t4 t5 t6 t7 t8 t9 t10 t11 t12 t13 t14 t15 t16 t17 t18 t19 t20 t21 t22 t23 t24 t25 t26 t27 t28 t29 t30 : Option D) {T : Tg} {X : TT} (hT : TOk T) (hX : XOk T X) {s2 : PL.Env → Option (Fl × PL.Env)} {P : Fl → PL.Env → Prop}
    (k : ∀ (i' : Nat) (t4 t23 t24 : Option D), Ok s2 [some (scr ns), some (Wd xs i'), some (nD a), some (gD T tD), t4, t5, t6, t7, t8, t9, t10, t11, t12, t13, t14, t15, t16, t17, some (xD X), t19, t20, t21, t22, t23, t24, t25, t26, t27, t28, t29, t30] P) :
    Ok (seqS
    (parS [4, 23] (aconsE (fnW 1 k__law_pick (aconsE (up (fn listA (acons (var 3) anil))) anilE)) (aconsE (slcE2 (up (tup (acons (cst (.str "a")) (acons (cst (.str "b")) (acons (cst (.str "c")) anil))))) noBE (toBE (op2E addA (up (cst (.int 1))) (fnW 1 k__law_next (aconsE (up (cst (.int 3))) anilE))))) anilE)))
    (seqS
    (ifS (notT (tru (fn (k__law_same 12) (acons (fn k_is_clean (acons (fn dictD (acons (op2 ixA (var 18) (var 4)) anil)) (acons (var 23) anil))) (acons (fn k__law_clean (acons (op2 ixA (var 18) (var 4)) (acons (var 23) anil))) anil)))))
    (retS (cst (.bool false)))
    nilS)
    (seqS
    (asgS 24 (lc (anyI (var 3)) [25] (bN 25) yesT (op2 ixA (var 3) (var 25))))
    (seqS
    (ifS (notT (tru (fn (k__law_same 12) (acons (fn k_shared_letters (acons (fn dictD (acons (var 3) anil)) anil)) (acons (fn tupleD (acons (lc (anyI (cst (.str "abcde"))) [6] (bN 6) (tru (op2 (bD eqB) (lc (anyI (var 24)) [25] (bN 25) (tru (op2 (bD (notB inB)) (var 6) (var 25))) (var 25)) (lst anil))) (var 6)) anil)) anil)))))
    (retS (cst (.bool false)))
    nilS) s2)))) [some (scr ns), some (Wd xs i), some (nD a), some (gD T tD), t4, t5, t6, t7, t8, t9, t10, t11, t12, t13, t14, t15, t16, t17, some (xD X), t19, t20, t21, t22, t23, t24, t25, t26, t27, t28, t29, t30] P := by
  
  obtain ⟨t, ht, e1⟩ := pick_tongue hT xs i (ρ := [some (scr ns), some (Wd xs i), some (nD a), some (gD T tD), t4, t5, t6, t7, t8, t9, t10, t11, t12, t13, t14, t15, t16, t17, some (xD X), t19, t20, t21, t22, t23, t24, t25, t26, t27, t28, t29, t30]) rfl rfl
  obtain ⟨R, hR, e2⟩ := add_next (j := 1) (ρ := [some (scr ns), some (Wd xs ((i + 1 : Nat) : Int)), some (nD a), some (gD T tD), t4, t5, t6, t7, t8, t9, t10, t11, t12, t13, t14, t15, t16, t17, some (xD X), t19, t20, t21, t22, t23, t24, t25, t26, t27, t28, t29, t30]) (xs := xs) (i := i + 1) (f := cst (.int 1)) (c := 1) (ase := aconsE (up (cst (.int 3))) anilE) rfl rfl 3 (by omega) rfl
  obtain ⟨L, hL⟩ : ∃ L : List Nat, L = [97, 98, 99].take (1 + R) := ⟨_, rfl⟩
  have hL3 : L.length ≤ 3 := by
    rw [hL, List.length_take]
    exact Nat.min_le_right _ _
  refine Ok.nx (ρ1 := [some (scr ns), some (Wd xs ((i + 1 + 1 : Nat) : Int)), some (nD a), some (gD T tD), some (.str t), t5, t6, t7, t8, t9, t10, t11, t12, t13, t14, t15, t16, t17, some (xD X), t19, t20, t21, t22, some (utD L), t24, t25, t26, t27, t28, t29, t30]) ?_ ?_
  · rw [e_parS, e_aconsE, e1, Option.bind_some]
    show ((aconsE _ anilE [some (scr ns), some (Wd xs ((i + 1 : Nat) : Int)), some (nD a), some (gD T tD), t4, t5, t6, t7, t8, t9, t10, t11, t12, t13, t14, t15, t16, t17, some (xD X), t19, t20, t21, t22, t23, t24, t25, t26, t27, t28, t29, t30]).bind _).bind _ = _
    rw [e_aconsE, cut_drawT (ds := ([97, 98, 99] : List Nat).map fun c => tD [c]) (n := 1 + R) rfl e2, ← List.map_take, ← hL]
    rfl
  have hM := tb_ok hT hX ht
  refine Ok.skip (same_test (d := resD (st (tb X t) L 4).2) ?_ ?_ (res_same _)) ?_
  · rw [ev_fn2 (dM _ (tb_ix hT hX ht rfl rfl)) (y := utD L) rfl]
    exact is_clean_ok hM hL3
  · rw [ev_fn2 (tb_ix hT hX ht rfl rfl) (y := utD L) rfl]
    exact law_clean_ok hM hL3
  refine Ok.asg (d := ltD (T.map (·.2))) (alphabets hT rfl fun p hp => ⟨_, rfl, t_ixd hT (List.mem_map_of_mem hp) rfl rfl⟩) ?_
  refine Ok.skip (same_test (d := .tuple ((shr T).map fun c => tD [c])) ?_ (nx_tupL ?_) ?_) (k _ _ _ _)
  · rw [ev_fn1 (dT T tD rfl)]
    exact shared_ok hT
  · refine lc_ok (enc := fun c => tD [c]) (inAll T) (fun c => tD [c]) (List.range' 97 5) rfl fun c hc => ⟨_, rfl, ?_, fun _ => rfl⟩
    have e3 : ∀ ρ : PL.Env, var 24 ρ = some (ltD (T.map (·.2))) → (∀ l : List Nat, var 6 ((wipeE ρ [25]).set 25 (some (tD l))) = some (tD [c])) → (∀ l : List Nat, var 25 ((wipeE ρ [25]).set 25 (some (tD l))) = some (tD l)) → tru (op2 (bD eqB) (lc (anyI (var 24)) [25] (bN 25) (tru (op2 (bD (notB inB)) (var 6) (var 25))) (var 25)) (lst anil)) ρ = some (inAll T c) := fun ρ hv h6 h25 => by
      have q := lc_ok (enc := tD) (it := anyI (var 24)) (vs := [25]) (bnd := bN 25) (tt := tru (op2 (bD (notB inB)) (var 6) (var 25))) (te := var 25) (ρ := ρ) (fun l : List Nat => !decide (c ∈ l)) tD (T.map (·.2)) (by show (var 24 ρ).bind itemsA = _; rw [hv]; rfl) fun l hl => ⟨_, rfl, nx_nin (h6 l) (h25 l) (t_inT c l), fun _ => h25 l⟩
      refine nx_ct q rfl ?_
      have q2 := eq_nilD (α := Str) (by decide) (((T.map (·.2)).filter fun l : List Nat => !decide (c ∈ l)).map tx)
      rw [List.map_map] at q2
      refine q2.trans (congrArg some ?_)
      unfold inAll
      rw [Bool.eq_iff_iff, decide_eq_true_eq, List.map_eq_nil_iff, List.filter_eq_nil_iff, List.all_eq_true]
      constructor
      · intro h p hp
        have := h p.2 (List.mem_map_of_mem hp)
        simpa using this
      · intro h l hl
        obtain ⟨p, hp, rfl⟩ := List.mem_map.mp hl
        have := h p hp
        simpa using this
    exact e3 _ rfl (fun l => rfl) fun l => rfl
  · refine sm_M (n := 11) _ (fun _ _ => trivial) (Nat.le_trans (List.length_filter_le _ _) (by decide))

theorem st_order (ns xs : List Int) (i a : Nat) (t3 t4 t5 t6 t7 t8 t9 t10 t11 t12 t13 t14 t15 t16 t17 t18 t19 t20 t21 t22 t23 t24 t25 t26 t27 t28 t29 t30 : Option D) {T : Tg} (hT : TOk T) {s2 : PL.Env → Option (Fl × PL.Env)} {P : Fl → PL.Env → Prop}
    (k : ∀ (i' : Nat) (t26 t27 t28 : Option D), Ok s2 [some (scr ns), some (Wd xs i'), some (nD a), some (gD T tD), t4, t5, t6, t7, t8, t9, t10, t11, t12, t13, t14, t15, t16, t17, t18, t19, t20, t21, t22, t23, t24, t25, t26, t27, t28, t29, t30] P) :
    Ok (seqS
    (parS [26, 27] (aconsE (fnW 1 k__law_pick (aconsE (up (fn listA (acons (var 3) anil))) anilE)) (aconsE (fnW 1 k__law_pick (aconsE (up (fn listA (acons (var 3) anil))) anilE)) anilE)))
    (seqS
    (asgS 28 (lc (anyI (lst (acons (var 26) (acons (var 27) anil)))) [25] (bN 25) yesT (lc (anyI (op2 ixA (var 3) (var 25))) [6] (bN 6) (andT (tru (op2 (bD inB) (var 6) (op2 ixA (var 3) (var 26)))) (tru (op2 (bD inB) (var 6) (op2 ixA (var 3) (var 27))))) (var 6))))
    (seqS
    (ifS (notT (tru (fn k__law_says (acons (fn k_order_kept (acons (fn dictD (acons (var 3) anil)) (acons (var 26) (acons (var 27) anil)))) (acons (op2 (bD eqB) (op2 ixA (var 28) (cst (.int 0))) (op2 ixA (var 28) (cst (.int 1)))) anil)))))
    (retS (cst (.bool false)))
    nilS) s2))) [some (scr ns), some (Wd xs i), some (nD a), some (gD T tD), t4, t5, t6, t7, t8, t9, t10, t11, t12, t13, t14, t15, t16, t17, t18, t19, t20, t21, t22, t23, t24, t25, t26, t27, t28, t29, t30] P := by
  
  obtain ⟨b, hb, e1⟩ := pick_tongue hT xs i (ρ := [some (scr ns), some (Wd xs i), some (nD a), some (gD T tD), t4, t5, t6, t7, t8, t9, t10, t11, t12, t13, t14, t15, t16, t17, t18, t19, t20, t21, t22, t23, t24, t25, t26, t27, t28, t29, t30]) rfl rfl
  obtain ⟨c, hc, e2⟩ := pick_tongue hT xs (i + 1) (ρ := [some (scr ns), some (Wd xs ((i + 1 : Nat) : Int)), some (nD a), some (gD T tD), t4, t5, t6, t7, t8, t9, t10, t11, t12, t13, t14, t15, t16, t17, t18, t19, t20, t21, t22, t23, t24, t25, t26, t27, t28, t29, t30]) rfl rfl
  refine Ok.nx (ρ1 := [some (scr ns), some (Wd xs ((i + 1 + 1 : Nat) : Int)), some (nD a), some (gD T tD), t4, t5, t6, t7, t8, t9, t10, t11, t12, t13, t14, t15, t16, t17, t18, t19, t20, t21, t22, t23, t24, t25, some (.str b), some (.str c), t28, t29, t30]) ?_ ?_
  · rw [e_parS, e_aconsE, e1, Option.bind_some]
    show ((aconsE _ anilE [some (scr ns), some (Wd xs ((i + 1 : Nat) : Int)), some (nD a), some (gD T tD), t4, t5, t6, t7, t8, t9, t10, t11, t12, t13, t14, t15, t16, t17, t18, t19, t20, t21, t22, t23, t24, t25, t26, t27, t28, t29, t30]).bind _).bind _ = _
    rw [e_aconsE, e2]
    rfl
  let KK : Str → List (List Nat) := fun t => one ((al T t).filter fun e => decide (e ∈ al T b) && decide (e ∈ al T c))
  have hK1 : KK b = one (kept T b c) := congrArg one (List.filter_congr fun e he => by rw [decide_eq_true he, Bool.true_and])
  have hK2 : KK c = one (kept T c b) := congrArg one (List.filter_congr fun e he => by rw [decide_eq_true he, Bool.and_true])
  refine Ok.asg (d := .list ([b, c].map fun t => ltD (KK t))) ?_ ?_
  · refine lc_okA (enc := PyData.str) (fun t => ltD (KK t)) [b, c] rfl fun t ht => ⟨_, rfl, rfl, ?_⟩
    have ht' : t ∈ T.map (·.1) := by
      rcases List.mem_cons.mp ht with rfl | ht
      · exact hb
      · rw [List.mem_singleton.mp ht]
        exact hc
    refine (lc_ok (enc := fun e => tD [e]) (fun e => decide (e ∈ al T b) && decide (e ∈ al T c)) (fun e => tD [e]) (al T t) ?_ fun e he => ⟨_, rfl, ?_, fun _ => rfl⟩).trans ?_
    · show (op2 ixA _ _ _).bind itemsA = _
      rw [t_ixd hT ht' rfl rfl]
      exact t_items _
    · exact nx_and (nx_inT rfl (t_ixd hT hb rfl rfl)) fun _ => nx_inT rfl (t_ixd hT hc rfl rfl)
    · show some (PyData.list _) = some (PyData.list (List.map tD (List.map _ _)))
      rw [List.map_map]
      rfl
  refine Ok.skip (says_test (b := decide (one (kept T b c) = one (kept T c b))) ?_ ?_) (k _ _ _ _)
  · rw [ev_fn3 (dT T tD rfl) (y := .str b) (z := .str c) rfl rfl]
    exact order_kept_ok hT hb hc
  · rw [← hK1, ← hK2]
    exact keptD _ _ rfl rfl
def vals1 (W : List Wrd) : List (D × Bool) := [(.tuple (W.map wD), true), (.tuple (W.map wD ++ [.tuple [.str "norse", .str ""]]), false), (.tuple (W.map wD ++ [.tuple [.str "norse", .str "z"]]), false), (.tuple (W.map wD ++ [.tuple [.str "Norse", .str "a"]]), false), (.list (W.map wD), false)]
def vals2 : List D := [.none, .tuple [.tuple [.str "norse"]], .tuple [.tuple [.str "norse", .int 1]], .tuple [.list [.str "norse", .str "a"]], .tuple [.tuple [.int 1, .str "a"]]]
theorem vals1_ok {T : Tg} {W : List Wrd} (hT : TOk T) (hW : WOk T W) (hin : ("norse" : Str) ∈ T.map (·.1)) (hout : ("Norse" : Str) ∉ T.map (·.1)) : ∀ p ∈ vals1 W, k_are_words [gD T tD, p.1] = some (.bool p.2) := by
  intro p hp
  simp only [vals1, List.mem_cons, List.not_mem_nil, or_false] at hp
  rcases hp with rfl | rfl | rfl | rfl | rfl
  · exact are_all hT hW
  · refine are_more hT hW rfl ((word_str rfl (spells_ok (al T "norse") [])).trans ?_)
    rw [show spl (al T "norse") [] = false from rfl, Bool.and_false]
  · refine are_more hT hW rfl ((word_str rfl (spells_ok (al T "norse") [122])).trans ?_)
    have : spl (al T "norse") [122] = false := by
      unfold spl
      have h : decide (122 ∈ al T "norse") = false := decide_eq_false fun h => by
        have := (hT.al _ (al_get hT hin).2).2.2 122 h
        omega
      rw [List.all_cons, h, Bool.false_and, Bool.and_false]
    rw [this, Bool.and_false]
  · refine are_more hT hW rfl ((word_str rfl (spells_ok (al T "Norse") [97])).trans ?_)
    rw [decide_eq_false hout, Bool.false_and]
  · exact are_not (d := .list (W.map wD)) ((v_inst .tuple (.list (W.map wD)) (cln_ws W)).trans rfl)
theorem vals2_ok {T : Tg} (hT : TOk T) : ∀ d ∈ vals2, k_are_words [gD T tD, d] = some (.bool false) := by
  have h0 : WOk T [] := ⟨Nat.zero_le _, fun p hp => nomatch hp⟩
  intro d hd
  simp only [vals2, List.mem_cons, List.not_mem_nil, or_false] at hd
  rcases hd with rfl | rfl | rfl | rfl | rfl
  · exact are_not rfl
  · exact are_more (W := []) hT h0 rfl (word_not (wd_len _ rfl))
  · exact are_more (W := []) hT h0 rfl ((word_str rfl (spells_int _ 1)).trans (by rw [Bool.and_false]))
  · exact are_more (W := []) hT h0 rfl (word_not (wd_tuple _ rfl rfl))
  · exact are_more (W := []) hT h0 rfl (word_nostr rfl rfl)
theorem law_ok (ns : List Int) (h : ns.length ≤ 63) : k_law [scr ns] = some (.bool true) := by
  obtain ⟨xs, hd⟩ := draws_ok ns 400 h (by decide)
  have hd' : k__law_draws [scr ns, .int 400] = _ := hd
  refine Ok.bd1 ?_
  show Ok m_law [some (scr ns), none, none, none, none, none, none, none, none, none, none, none, none, none, none, none, none, none, none, none, none, none, none, none, none, none, none, none, none, none, none] _
  refine Ok.nx (ρ1 := [some (scr ns), some (Wd xs ((0 : Nat) : Int)), none, none, none, none, none, none, none, none, none, none, none, none, none, none, none, none, none, none, none, none, none, none, none, none, none, none, none, none, none]) ?_ ?_
  · simp only [e_var, e_cst, e_op1, e_op2, e_op3, e_fn, e_anil, e_acons, e_up, e_op1E, e_op2E, e_fnE, e_anilE, e_aconsE, e_fnW, e_tup, e_lst, e_tupE, e_lstE, e_dnil, e_noB, e_toB, e_slc, e_tru, e_truE, e_andT, e_orT, e_notT, e_andTE, e_orTE, e_notTE, e_andV, e_orV, e_ifE, e_ifEE, e_anyI, e_rng, e_rngE, e_zipTI, e_zipI, e_dis1, e_dis2, e_chn, e_nilS, e_asgS, e_asgE, e_tgtS, e_exprS, e_retS, e_retE, e_retN, e_brkS, e_contS, e_parS, e_putS, e_augS, e_augN, e_mutL, e_yesT, e_yesTE, e_bN, e_bT, e_sa, e_sa0, e_tgs, e_tg0, e_tgN, e_tgS, v_eqI, v_neI, v_eqB, v_ltI, v_gtI, v_leI, v_geI, v_bD, v_notB, v_asB, v_asI, v_notD, v_negD, v_addI, v_addD, v_iop, v_subI, v_lenL, v_lenT, v_lenScr, v_int, v_abs, v_tupL, v_tupT, v_lstL, v_lstT, v_itL, v_itT, v_isL, v_eqNil, Option.bind_some, Option.map_some, Option.join_some, List.getElem?_cons_succ, List.getElem?_cons_zero, List.set_cons_succ, List.set_cons_zero, List.length_cons, List.length_nil, if_pos, if_true, hd', w_make]
    rfl

  refine Ok.seq (Ok.forI (enc := nD) (fun ρ => ∃ (i : Nat) (t2 t3 t4 t5 t6 t7 t8 t9 t10 t11 t12 t13 t14 t15 t16 t17 t18 t19 t20 t21 t22 t23 t24 t25 t26 t27 t28 t29 t30 : Option D), ρ = [some (scr ns), some (Wd xs i), t2, t3, t4, t5, t6, t7, t8, t9, t10, t11, t12, t13, t14, t15, t16, t17, t18, t19, t20, t21, t22, t23, t24, t25, t26, t27, t28, t29, t30]) (List.range 4) (v_rng1 4 (by decide)) (fun a _ ρ hi => ?_) ⟨0, _, _, _, _, _, _, _, _, _, _, _, _, _, _, _, _, _, _, _, _, _, _, _, _, _, _, _, _, _, rfl⟩) fun ρ1 hi => Ok.ret rfl rfl
  obtain ⟨i, t2, t3, t4, t5, t6, t7, t8, t9, t10, t11, t12, t13, t14, t15, t16, t17, t18, t19, t20, t21, t22, t23, t24, t25, t26, t27, t28, t29, t30, rfl⟩ := hi
  refine ⟨_, rfl, ?_⟩
  show Ok _ [some (scr ns), some (Wd xs i), some (nD a), t3, t4, t5, t6, t7, t8, t9, t10, t11, t12, t13, t14, t15, t16, t17, t18, t19, t20, t21, t22, t23, t24, t25, t26, t27, t28, t29, t30] _
  refine Ok.asg (d := .dict []) rfl ?_
  refine tongues_ok ns xs i a none _ _ _ _ _ _ _ _ _ _ _ _ _ _ _ _ _ _ _ _ _ _ _ _ _ _ _ fun T R i t4 t5 t6 hTG => ?_
  obtain ⟨hT, hin, hout, hlay⟩ := hTG.ok (by omega)
  refine row_ok ns xs i a none _ _ _ _ _ _ _ _ _ _ _ _ _ _ _ _ _ _ _ _ _ _ _ _ _ _ _ hT fun row i hrow => ?_
  refine words_ok ns xs i a none _ _ _ _ _ _ _ _ _ _ _ _ _ _ _ _ _ _ _ _ _ _ _ _ _ _ _ hT fun W i t4 t9 t10 hW => ?_
  refine st_tongues ns xs i a none _ _ _ none none _ _ _ _ _ _ _ _ _ _ _ _ _ _ _ _ _ _ _ _ _ _ hT hW (fun t ht => (hrow t).mpr ht) (fun t ht => hlay t ((hrow t).mp ht)) fun t11 => ?_
  refine st_line ns xs i a none _ _ _ _ none _ _ _ _ _ _ _ _ _ _ _ _ _ _ _ _ _ _ _ _ _ _ hT hW fun t4 t9 t14 t15 t16 t17 => ?_
  refine st_tables ns xs i a none _ _ _ _ _ _ _ _ _ _ _ _ _ _ _ _ _ _ _ _ _ _ _ _ _ _ _ hT fun X i t4 t6 hX _ => ?_
  refine st_told ns xs i a _ _ _ _ _ none _ _ _ _ _ _ _ _ _ none _ _ _ _ _ _ _ _ _ _ _ _ hT hW hX fun t9 t11 t21 => ?_
  refine st_clean ns xs i a none _ _ _ _ _ _ _ _ _ _ _ _ _ _ none _ _ _ _ _ _ _ _ _ _ _ _ hT hX fun i t4 t23 t24 => ?_
  refine st_order ns xs i a none _ _ _ _ _ _ _ _ _ _ _ _ _ _ _ _ _ _ _ _ _ _ _ _ _ _ _ hT fun i t26 t27 t28 => ?_
  
  have hz : (W.map wD).length + 1 ≤ 16777216 := by rw [List.length_map]; have := hW.len; omega
  refine Ok.seq (I := fun ρ => ∃ t29 t30, ρ = [some (scr ns), some (Wd xs i), some (nD a), some (gD T tD), t4, t5, t6, some (.tuple (row.map .str)), some (.tuple (W.map wD)), t9, t10, t11, t12, t13, t14, t15, t16, t17, some (xD X), some (ltD (W.map (told X))), t20, t21, t22, t23, t24, t25, t26, t27, t28, t29, t30]) (Ok.forI (enc := fun p : D × Bool => .tuple [p.1, .bool p.2]) (fun ρ => ∃ t29 t30, ρ = [some (scr ns), some (Wd xs i), some (nD a), some (gD T tD), t4, t5, t6, some (.tuple (row.map .str)), some (.tuple (W.map wD)), t9, t10, t11, t12, t13, t14, t15, t16, t17, some (xD X), some (ltD (W.map (told X))), t20, t21, t22, t23, t24, t25, t26, t27, t28, t29, t30]) (vals1 W) ?_ (fun p hp ρ hi => ?_) ⟨_, _, rfl⟩) fun ρ1 hi => ?_
  · show (lst _ _).bind itemsA = _
    rw [nx_lst (nx_ac (nx_tup2 rfl rfl) (nx_ac (nx_tup2 (nx_catT (ys := [.tuple [.str "norse", .str ""]]) rfl rfl hz) rfl) (nx_ac (nx_tup2 (nx_catT (ys := [.tuple [.str "norse", .str "z"]]) rfl rfl hz) rfl) (nx_ac (nx_tup2 (nx_catT (ys := [.tuple [.str "Norse", .str "a"]]) rfl rfl hz) rfl) (nx_ac (nx_tup2 (nx_lstA rfl) rfl) nx_an)))))]
    rfl
  · obtain ⟨t29, t30, rfl⟩ := hi
    refine ⟨[some (scr ns), some (Wd xs i), some (nD a), some (gD T tD), t4, t5, t6, some (.tuple (row.map .str)), some (.tuple (W.map wD)), t9, t10, t11, t12, t13, t14, t15, t16, t17, some (xD X), some (ltD (W.map (told X))), t20, t21, t22, t23, t24, t25, t26, t27, t28, some (p.1), some (.bool p.2)], rfl, Ok.pass (says_test (b := p.2) ?_ rfl) ⟨rfl, _, _, rfl⟩⟩
    rw [ev_fn2 (dT T tD rfl) (y := p.1) rfl]
    exact vals1_ok hT hW hin hout p hp
  · obtain ⟨t29, t30, rfl⟩ := hi
    refine Ok.mono (Ok.forI (enc := (id : D → D)) (fun ρ => ∃ t29, ρ = [some (scr ns), some (Wd xs i), some (nD a), some (gD T tD), t4, t5, t6, some (.tuple (row.map .str)), some (.tuple (W.map wD)), t9, t10, t11, t12, t13, t14, t15, t16, t17, some (xD X), some (ltD (W.map (told X))), t20, t21, t22, t23, t24, t25, t26, t27, t28, t29, t30]) vals2 rfl (fun d hd ρ hi => ?_) ⟨_, rfl⟩) fun fl ρ q => ⟨q.1, ?_⟩
    · obtain ⟨t29, rfl⟩ := hi
      refine ⟨[some (scr ns), some (Wd xs i), some (nD a), some (gD T tD), t4, t5, t6, some (.tuple (row.map .str)), some (.tuple (W.map wD)), t9, t10, t11, t12, t13, t14, t15, t16, t17, some (xD X), some (ltD (W.map (told X))), t20, t21, t22, t23, t24, t25, t26, t27, t28, some (d), t30], rfl, Ok.pass ?_ ⟨rfl, _, rfl⟩⟩
      refine nx_ct (x := .bool false) (y := .bool false) ?_ rfl rfl
      rw [ev_fn2 (dT T tD rfl) (y := d) rfl]
      exact vals2_ok hT d hd
    · obtain ⟨t29, rfl⟩ := q.2
      exact ⟨_, _, _, _, _, _, _, _, _, _, _, _, _, _, _, _, _, _, _, _, _, _, _, _, _, _, _, _, _, _, rfl⟩
end LX

namespace LX
open PySem PySem.Spec PyProof.Rows L2 PySem.W PL
theorem all_mk {l : PySem.W.OpenLaw} {w : World} {K : PySem.W.Frag} {h : Heap} {mg : Str → Option Value} {fa : Addr} (X : K.In h) (G : h.Ns mainGlobals mg) (hfa : mg "law" = some (.ref fa))
    {f1 : Addr} {od1 an1 : Option Addr} {sl1 : Array (Option Value)} {oc1 kV1 dc1 pm1 cd1 ct1 : Value}
    {f2 : Addr} {od2 an2 : Option Addr} {sl2 : Array (Option Value)} {oc2 kV2 dc2 pm2 cd2 ct2 : Value}
    {f3 : Addr} {od3 an3 : Option Addr} {sl3 : Array (Option Value)} {oc3 kV3 dc3 pm3 cd3 ct3 : Value}
    {f4 : Addr} {od4 an4 : Option Addr} {sl4 : Array (Option Value)} {oc4 kV4 dc4 pm4 cd4 ct4 : Value}
    {f5 : Addr} {od5 an5 : Option Addr} {sl5 : Array (Option Value)} {oc5 kV5 dc5 pm5 cd5 ct5 : Value}
    {f6 : Addr} {od6 an6 : Option Addr} {sl6 : Array (Option Value)} {oc6 kV6 dc6 pm6 cd6 ct6 : Value}
    {f7 : Addr} {od7 an7 : Option Addr} {sl7 : Array (Option Value)} {oc7 kV7 dc7 pm7 cd7 ct7 : Value}
    {f8 : Addr} {od8 an8 : Option Addr} {sl8 : Array (Option Value)} {oc8 kV8 dc8 pm8 cd8 ct8 : Value}
    {f9 : Addr} {od9 an9 : Option Addr} {sl9 : Array (Option Value)} {oc9 kV9 dc9 pm9 cd9 ct9 : Value}
    {f10 : Addr} {od10 an10 : Option Addr} {sl10 : Array (Option Value)} {oc10 kV10 dc10 pm10 cd10 ct10 : Value}
    {f11 : Addr} {od11 an11 : Option Addr} {sl11 : Array (Option Value)} {oc11 kV11 dc11 pm11 cd11 ct11 : Value}
    {f12 : Addr} {od12 an12 : Option Addr} {sl12 : Array (Option Value)} {oc12 kV12 dc12 pm12 cd12 ct12 : Value}
    {f13 : Addr} {od13 an13 : Option Addr} {sl13 : Array (Option Value)} {oc13 kV13 dc13 pm13 cd13 ct13 : Value}
    {f14 : Addr} {od14 an14 : Option Addr} {sl14 : Array (Option Value)} {oc14 kV14 dc14 pm14 cd14 ct14 : Value}
    {f15 : Addr} {od15 an15 : Option Addr} {sl15 : Array (Option Value)} {oc15 kV15 dc15 pm15 cd15 ct15 : Value}
    {f16 : Addr} {od16 an16 : Option Addr} {sl16 : Array (Option Value)} {oc16 kV16 dc16 pm16 cd16 ct16 : Value}
    {f17 : Addr} {od17 an17 : Option Addr} {sl17 : Array (Option Value)} {oc17 kV17 dc17 pm17 cd17 ct17 : Value}
    {f18 : Addr} {od18 an18 : Option Addr} {sl18 : Array (Option Value)} {oc18 kV18 dc18 pm18 cd18 ct18 : Value}
    {f19 : Addr} {od19 an19 : Option Addr} {sl19 : Array (Option Value)} {oc19 kV19 dc19 pm19 cd19 ct19 : Value}
    {f20 : Addr} {od20 an20 : Option Addr} {sl20 : Array (Option Value)} {oc20 kV20 dc20 pm20 cd20 ct20 : Value}
    {f21 : Addr} {od21 an21 : Option Addr} {sl21 : Array (Option Value)} {oc21 kV21 dc21 pm21 cd21 ct21 : Value}
    {f22 : Addr} {od22 an22 : Option Addr} {sl22 : Array (Option Value)} {oc22 kV22 dc22 pm22 cd22 ct22 : Value}
    {f23 : Addr} {od23 an23 : Option Addr} {sl23 : Array (Option Value)} {oc23 kV23 dc23 pm23 cd23 ct23 : Value}
    {f24 : Addr} {od24 an24 : Option Addr} {sl24 : Array (Option Value)} {oc24 kV24 dc24 pm24 cd24 ct24 : Value}
    {f25 : Addr} {od25 an25 : Option Addr} {sl25 : Array (Option Value)} {oc25 kV25 dc25 pm25 cd25 ct25 : Value}
    {f26 : Addr} {od26 an26 : Option Addr} {sl26 : Array (Option Value)} {oc26 kV26 dc26 pm26 cd26 ct26 : Value}
    {f27 : Addr} {od27 an27 : Option Addr} {sl27 : Array (Option Value)} {oc27 kV27 dc27 pm27 cd27 ct27 : Value}
    {f28 : Addr} {od28 an28 : Option Addr} {sl28 : Array (Option Value)} {oc28 kV28 dc28 pm28 cd28 ct28 : Value}
    {f29 : Addr} {od29 an29 : Option Addr} {sl29 : Array (Option Value)} {oc29 kV29 dc29 pm29 cd29 ct29 : Value}
    (a1 : PySem.W.nsIn K mainGlobals "is_tuple_of" = some (some (.ref f1))) (l1 : K.lookup f1 = some ⟨oc1, od1, .func (PySem.W.fnOf "is_tuple_of" "is_tuple_of" (defArgs s_is_tuple_of) (defBody s_is_tuple_of) (defScope s_is_tuple_of) .none kV1 dc1 pm1 an1 cd1 ct1), sl1⟩) (c1 : PySem.W.codeIn K cd1 "is_tuple_of" = true) (k1 : PySem.W.keepIn K (.ref f1) = true)
    (a2 : PySem.W.nsIn K mainGlobals "is_name" = some (some (.ref f2))) (l2 : K.lookup f2 = some ⟨oc2, od2, .func (PySem.W.fnOf "is_name" "is_name" (defArgs s_is_name) (defBody s_is_name) (defScope s_is_name) .none kV2 dc2 pm2 an2 cd2 ct2), sl2⟩) (c2 : PySem.W.codeIn K cd2 "is_name" = true) (k2 : PySem.W.keepIn K (.ref f2) = true)
    (a3 : PySem.W.nsIn K mainGlobals "spells" = some (some (.ref f3))) (l3 : K.lookup f3 = some ⟨oc3, od3, .func (PySem.W.fnOf "spells" "spells" (defArgs s_spells) (defBody s_spells) (defScope s_spells) .none kV3 dc3 pm3 an3 cd3 ct3), sl3⟩) (c3 : PySem.W.codeIn K cd3 "spells" = true) (k3 : PySem.W.keepIn K (.ref f3) = true)
    (a4 : PySem.W.nsIn K mainGlobals "key_by" = some (some (.ref f4))) (l4 : K.lookup f4 = some ⟨oc4, od4, .func (PySem.W.fnOf "key_by" "key_by" (defArgs s_key_by) (defBody s_key_by) (defScope s_key_by) .none kV4 dc4 pm4 an4 cd4 ct4), sl4⟩) (c4 : PySem.W.codeIn K cd4 "key_by" = true) (k4 : PySem.W.keepIn K (.ref f4) = true)
    (a5 : PySem.W.nsIn K mainGlobals "texts_of" = some (some (.ref f5))) (l5 : K.lookup f5 = some ⟨oc5, od5, .func (PySem.W.fnOf "texts_of" "texts_of" (defArgs s_texts_of) (defBody s_texts_of) (defScope s_texts_of) .none kV5 dc5 pm5 an5 cd5 ct5), sl5⟩) (c5 : PySem.W.codeIn K cd5 "texts_of" = true) (k5 : PySem.W.keepIn K (.ref f5) = true)
    (a6 : PySem.W.nsIn K mainGlobals "is_word" = some (some (.ref f6))) (l6 : K.lookup f6 = some ⟨oc6, od6, .func (PySem.W.fnOf "is_word" "is_word" (defArgs s_is_word) (defBody s_is_word) (defScope s_is_word) .none kV6 dc6 pm6 an6 cd6 ct6), sl6⟩) (c6 : PySem.W.codeIn K cd6 "is_word" = true) (k6 : PySem.W.keepIn K (.ref f6) = true)
    (a7 : PySem.W.nsIn K mainGlobals "are_words" = some (some (.ref f7))) (l7 : K.lookup f7 = some ⟨oc7, od7, .func (PySem.W.fnOf "are_words" "are_words" (defArgs s_are_words) (defBody s_are_words) (defScope s_are_words) .none kV7 dc7 pm7 an7 cd7 ct7), sl7⟩) (c7 : PySem.W.codeIn K cd7 "are_words" = true) (k7 : PySem.W.keepIn K (.ref f7) = true)
    (a8 : PySem.W.nsIn K mainGlobals "by_tongues" = some (some (.ref f8))) (l8 : K.lookup f8 = some ⟨oc8, od8, .func (PySem.W.fnOf "by_tongues" "by_tongues" (defArgs s_by_tongues) (defBody s_by_tongues) (defScope s_by_tongues) .none kV8 dc8 pm8 an8 cd8 ct8), sl8⟩) (c8 : PySem.W.codeIn K cd8 "by_tongues" = true) (k8 : PySem.W.keepIn K (.ref f8) = true)
    (a9 : PySem.W.nsIn K mainGlobals "size_of_all" = some (some (.ref f9))) (l9 : K.lookup f9 = some ⟨oc9, od9, .func (PySem.W.fnOf "size_of_all" "size_of_all" (defArgs s_size_of_all) (defBody s_size_of_all) (defScope s_size_of_all) .none kV9 dc9 pm9 an9 cd9 ct9), sl9⟩) (c9 : PySem.W.codeIn K cd9 "size_of_all" = true) (k9 : PySem.W.keepIn K (.ref f9) = true)
    (a10 : PySem.W.nsIn K mainGlobals "all_in_one" = some (some (.ref f10))) (l10 : K.lookup f10 = some ⟨oc10, od10, .func (PySem.W.fnOf "all_in_one" "all_in_one" (defArgs s_all_in_one) (defBody s_all_in_one) (defScope s_all_in_one) .none kV10 dc10 pm10 an10 cd10 ct10), sl10⟩) (c10 : PySem.W.codeIn K cd10 "all_in_one" = true) (k10 : PySem.W.keepIn K (.ref f10) = true)
    (a11 : PySem.W.nsIn K mainGlobals "written_in" = some (some (.ref f11))) (l11 : K.lookup f11 = some ⟨oc11, od11, .func (PySem.W.fnOf "written_in" "written_in" (defArgs s_written_in) (defBody s_written_in) (defScope s_written_in) .none kV11 dc11 pm11 an11 cd11 ct11), sl11⟩) (c11 : PySem.W.codeIn K cd11 "written_in" = true) (k11 : PySem.W.keepIn K (.ref f11) = true)
    (a12 : PySem.W.nsIn K mainGlobals "by_writing" = some (some (.ref f12))) (l12 : K.lookup f12 = some ⟨oc12, od12, .func (PySem.W.fnOf "by_writing" "by_writing" (defArgs s_by_writing) (defBody s_by_writing) (defScope s_by_writing) .none kV12 dc12 pm12 an12 cd12 ct12), sl12⟩) (c12 : PySem.W.codeIn K cd12 "by_writing" = true) (k12 : PySem.W.keepIn K (.ref f12) = true)
    (a13 : PySem.W.nsIn K mainGlobals "clashes_of" = some (some (.ref f13))) (l13 : K.lookup f13 = some ⟨oc13, od13, .func (PySem.W.fnOf "clashes_of" "clashes_of" (defArgs s_clashes_of) (defBody s_clashes_of) (defScope s_clashes_of) .none kV13 dc13 pm13 an13 cd13 ct13), sl13⟩) (c13 : PySem.W.codeIn K cd13 "clashes_of" = true) (k13 : PySem.W.keepIn K (.ref f13) = true)
    (a14 : PySem.W.nsIn K mainGlobals "is_clean" = some (some (.ref f14))) (l14 : K.lookup f14 = some ⟨oc14, od14, .func (PySem.W.fnOf "is_clean" "is_clean" (defArgs s_is_clean) (defBody s_is_clean) (defScope s_is_clean) .none kV14 dc14 pm14 an14 cd14 ct14), sl14⟩) (c14 : PySem.W.codeIn K cd14 "is_clean" = true) (k14 : PySem.W.keepIn K (.ref f14) = true)
    (a15 : PySem.W.nsIn K mainGlobals "shared_letters" = some (some (.ref f15))) (l15 : K.lookup f15 = some ⟨oc15, od15, .func (PySem.W.fnOf "shared_letters" "shared_letters" (defArgs s_shared_letters) (defBody s_shared_letters) (defScope s_shared_letters) .none kV15 dc15 pm15 an15 cd15 ct15), sl15⟩) (c15 : PySem.W.codeIn K cd15 "shared_letters" = true) (k15 : PySem.W.keepIn K (.ref f15) = true)
    (a16 : PySem.W.nsIn K mainGlobals "order_kept" = some (some (.ref f16))) (l16 : K.lookup f16 = some ⟨oc16, od16, .func (PySem.W.fnOf "order_kept" "order_kept" (defArgs s_order_kept) (defBody s_order_kept) (defScope s_order_kept) .none kV16 dc16 pm16 an16 cd16 ct16), sl16⟩) (c16 : PySem.W.codeIn K cd16 "order_kept" = true) (k16 : PySem.W.keepIn K (.ref f16) = true)
    (a17 : PySem.W.nsIn K mainGlobals "_law_draws" = some (some (.ref f17))) (l17 : K.lookup f17 = some ⟨oc17, od17, .func (PySem.W.fnOf "_law_draws" "_law_draws" (defArgs s__law_draws) (defBody s__law_draws) (defScope s__law_draws) .none kV17 dc17 pm17 an17 cd17 ct17), sl17⟩) (c17 : PySem.W.codeIn K cd17 "_law_draws" = true) (k17 : PySem.W.keepIn K (.ref f17) = true)
    (a18 : PySem.W.nsIn K mainGlobals "_law_next" = some (some (.ref f18))) (l18 : K.lookup f18 = some ⟨oc18, od18, .func (PySem.W.fnOf "_law_next" "_law_next" (defArgs s__law_next) (defBody s__law_next) (defScope s__law_next) .none kV18 dc18 pm18 an18 cd18 ct18), sl18⟩) (c18 : PySem.W.codeIn K cd18 "_law_next" = true) (k18 : PySem.W.keepIn K (.ref f18) = true)
    (a19 : PySem.W.nsIn K mainGlobals "_law_pick" = some (some (.ref f19))) (l19 : K.lookup f19 = some ⟨oc19, od19, .func (PySem.W.fnOf "_law_pick" "_law_pick" (defArgs s__law_pick) (defBody s__law_pick) (defScope s__law_pick) .none kV19 dc19 pm19 an19 cd19 ct19), sl19⟩) (c19 : PySem.W.codeIn K cd19 "_law_pick" = true) (k19 : PySem.W.keepIn K (.ref f19) = true)
    (a20 : PySem.W.nsIn K mainGlobals "_law_says" = some (some (.ref f20))) (l20 : K.lookup f20 = some ⟨oc20, od20, .func (PySem.W.fnOf "_law_says" "_law_says" (defArgs s__law_says) (defBody s__law_says) (defScope s__law_says) .none kV20 dc20 pm20 an20 cd20 ct20), sl20⟩) (c20 : PySem.W.codeIn K cd20 "_law_says" = true) (k20 : PySem.W.keepIn K (.ref f20) = true)
    (a21 : PySem.W.nsIn K mainGlobals "_law_same" = some (some (.ref f21))) (l21 : K.lookup f21 = some ⟨oc21, od21, .func (PySem.W.fnOf "_law_same" "_law_same" (defArgs s__law_same) (defBody s__law_same) (defScope s__law_same) .none kV21 dc21 pm21 an21 cd21 ct21), sl21⟩) (c21 : PySem.W.codeIn K cd21 "_law_same" = true) (k21 : PySem.W.keepIn K (.ref f21) = true)
    (a22 : PySem.W.nsIn K mainGlobals "_law_fraction" = some (some (.ref f22))) (l22 : K.lookup f22 = some ⟨oc22, od22, .func (PySem.W.fnOf "_law_fraction" "_law_fraction" (defArgs s__law_fraction) (defBody s__law_fraction) (defScope s__law_fraction) .none kV22 dc22 pm22 an22 cd22 ct22), sl22⟩) (c22 : PySem.W.codeIn K cd22 "_law_fraction" = true) (k22 : PySem.W.keepIn K (.ref f22) = true)
    (a23 : PySem.W.nsIn K mainGlobals "_law_less" = some (some (.ref f23))) (l23 : K.lookup f23 = some ⟨oc23, od23, .func (PySem.W.fnOf "_law_less" "_law_less" (defArgs s__law_less) (defBody s__law_less) (defScope s__law_less) .none kV23 dc23 pm23 an23 cd23 ct23), sl23⟩) (c23 : PySem.W.codeIn K cd23 "_law_less" = true) (k23 : PySem.W.keepIn K (.ref f23) = true)
    (a24 : PySem.W.nsIn K mainGlobals "_law_alphabet" = some (some (.ref f24))) (l24 : K.lookup f24 = some ⟨oc24, od24, .func (PySem.W.fnOf "_law_alphabet" "_law_alphabet" (defArgs s__law_alphabet) (defBody s__law_alphabet) (defScope s__law_alphabet) .none kV24 dc24 pm24 an24 cd24 ct24), sl24⟩) (c24 : PySem.W.codeIn K cd24 "_law_alphabet" = true) (k24 : PySem.W.keepIn K (.ref f24) = true)
    (a25 : PySem.W.nsIn K mainGlobals "_law_key" = some (some (.ref f25))) (l25 : K.lookup f25 = some ⟨oc25, od25, .func (PySem.W.fnOf "_law_key" "_law_key" (defArgs s__law_key) (defBody s__law_key) (defScope s__law_key) .none kV25 dc25 pm25 an25 cd25 ct25), sl25⟩) (c25 : PySem.W.codeIn K cd25 "_law_key" = true) (k25 : PySem.W.keepIn K (.ref f25) = true)
    (a26 : PySem.W.nsIn K mainGlobals "_law_written" = some (some (.ref f26))) (l26 : K.lookup f26 = some ⟨oc26, od26, .func (PySem.W.fnOf "_law_written" "_law_written" (defArgs s__law_written) (defBody s__law_written) (defScope s__law_written) .none kV26 dc26 pm26 an26 cd26 ct26), sl26⟩) (c26 : PySem.W.codeIn K cd26 "_law_written" = true) (k26 : PySem.W.keepIn K (.ref f26) = true)
    (a27 : PySem.W.nsIn K mainGlobals "_law_ahead" = some (some (.ref f27))) (l27 : K.lookup f27 = some ⟨oc27, od27, .func (PySem.W.fnOf "_law_ahead" "_law_ahead" (defArgs s__law_ahead) (defBody s__law_ahead) (defScope s__law_ahead) .none kV27 dc27 pm27 an27 cd27 ct27), sl27⟩) (c27 : PySem.W.codeIn K cd27 "_law_ahead" = true) (k27 : PySem.W.keepIn K (.ref f27) = true)
    (a28 : PySem.W.nsIn K mainGlobals "_law_clean" = some (some (.ref f28))) (l28 : K.lookup f28 = some ⟨oc28, od28, .func (PySem.W.fnOf "_law_clean" "_law_clean" (defArgs s__law_clean) (defBody s__law_clean) (defScope s__law_clean) .none kV28 dc28 pm28 an28 cd28 ct28), sl28⟩) (c28 : PySem.W.codeIn K cd28 "_law_clean" = true) (k28 : PySem.W.keepIn K (.ref f28) = true)
    (a29 : PySem.W.nsIn K mainGlobals "law" = some (some (.ref f29))) (l29 : K.lookup f29 = some ⟨oc29, od29, .func (PySem.W.fnOf "law" "law" (defArgs s_law) (defBody s_law) (defScope s_law) .none kV29 dc29 pm29 an29 cd29 ct29), sl29⟩) (c29 : PySem.W.codeIn K cd29 "law" = true) (k29 : PySem.W.keepIn K (.ref f29) = true)
    (z1 : PySem.W.nsIn K mainGlobals "len" = some none)
    (z2 : PySem.W.nsIn K mainGlobals "range" = some none)
    (z3 : PySem.W.nsIn K mainGlobals "sorted" = some none)
    (z4 : PySem.W.nsIn K mainGlobals "tuple" = some none)
    (z5 : PySem.W.nsIn K mainGlobals "list" = some none)
    (z6 : PySem.W.nsIn K mainGlobals "set" = some none)
    (z7 : PySem.W.nsIn K mainGlobals "dict" = some none)
    (z8 : PySem.W.nsIn K mainGlobals "int" = some none)
    (z9 : PySem.W.nsIn K mainGlobals "str" = some none)
    (z10 : PySem.W.nsIn K mainGlobals "abs" = some none)
    (z11 : PySem.W.nsIn K mainGlobals "sum" = some none)
    (z12 : PySem.W.nsIn K mainGlobals "min" = some none)
    (z13 : PySem.W.nsIn K mainGlobals "max" = some none)
    (z14 : PySem.W.nsIn K mainGlobals "all" = some none)
    (z15 : PySem.W.nsIn K mainGlobals "any" = some none)
    (z16 : PySem.W.nsIn K mainGlobals "isinstance" = some none)
    (z17 : PySem.W.nsIn K mainGlobals "zip" = some none)
    (z18 : PySem.W.nsIn K mainGlobals "enumerate" = some none)
    (z19 : PySem.W.nsIn K mainGlobals "bool" = some none) :
    ∃ fd : FuncData, (∀ (s : Shared) (v : Value), BindsTo s fd ⟨[v], []⟩ [("script", v)]) ∧ ∀ base : Heap, K.In base → base.Ns mainGlobals mg → FnOk l.prog w K mg base CX0 14 fa fd ["script"] (SpP K 1 k_law) := by
  have e := hfa.symm.trans (PySem.W.mg_of X G a29)
  cases e
  have ev : Ev K mg := ⟨⟨PySem.W.mg_none_of X G z1, PySem.W.mg_none_of X G z2, PySem.W.mg_none_of X G z3, PySem.W.mg_none_of X G z4, PySem.W.mg_none_of X G z5, PySem.W.mg_none_of X G z6, PySem.W.mg_none_of X G z7, PySem.W.mg_none_of X G z8, PySem.W.mg_none_of X G z9, PySem.W.mg_none_of X G z10, PySem.W.mg_none_of X G z11, PySem.W.mg_none_of X G z12, PySem.W.mg_none_of X G z13, PySem.W.mg_none_of X G z14, PySem.W.mg_none_of X G z15, PySem.W.mg_none_of X G z16, PySem.W.mg_none_of X G z17, PySem.W.mg_none_of X G z18, PySem.W.mg_none_of X G z19⟩,
    ff_of (fun_mk (st := s_is_tuple_of) l1 c1 k1) (PySem.W.mg_of X G a1) fun _ _ _ _ _ _ us hl => match us, hl with | [_, _], _ => rfl,
    ff_of (fun_mk (st := s_is_name) l2 c2 k2) (PySem.W.mg_of X G a2) fun _ _ _ _ _ _ us hl => match us, hl with | [_], _ => rfl,
    ff_of (fun_mk (st := s_spells) l3 c3 k3) (PySem.W.mg_of X G a3) fun _ _ _ _ _ _ us hl => match us, hl with | [_, _], _ => rfl,
    ff_of (fun_mk (st := s_key_by) l4 c4 k4) (PySem.W.mg_of X G a4) fun _ _ _ _ _ _ us hl => match us, hl with | [_, _], _ => rfl,
    ff_of (fun_mk (st := s_texts_of) l5 c5 k5) (PySem.W.mg_of X G a5) fun _ _ _ _ _ _ us hl => match us, hl with | [_, _], _ => rfl,
    ff_of (fun_mk (st := s_is_word) l6 c6 k6) (PySem.W.mg_of X G a6) fun _ _ _ _ _ _ us hl => match us, hl with | [_, _], _ => rfl,
    ff_of (fun_mk (st := s_are_words) l7 c7 k7) (PySem.W.mg_of X G a7) fun _ _ _ _ _ _ us hl => match us, hl with | [_, _], _ => rfl,
    ff_of (fun_mk (st := s_by_tongues) l8 c8 k8) (PySem.W.mg_of X G a8) fun _ _ _ _ _ _ us hl => match us, hl with | [_, _, _], _ => rfl,
    ff_of (fun_mk (st := s_size_of_all) l9 c9 k9) (PySem.W.mg_of X G a9) fun _ _ _ _ _ _ us hl => match us, hl with | [_], _ => rfl,
    ff_of (fun_mk (st := s_all_in_one) l10 c10 k10) (PySem.W.mg_of X G a10) fun _ _ _ _ _ _ us hl => match us, hl with | [_, _], _ => rfl,
    ff_of (fun_mk (st := s_written_in) l11 c11 k11) (PySem.W.mg_of X G a11) fun _ _ _ _ _ _ us hl => match us, hl with | [_, _], _ => rfl,
    ff_of (fun_mk (st := s_by_writing) l12 c12 k12) (PySem.W.mg_of X G a12) fun _ _ _ _ _ _ us hl => match us, hl with | [_, _], _ => rfl,
    ff_of (fun_mk (st := s_clashes_of) l13 c13 k13) (PySem.W.mg_of X G a13) fun _ _ _ _ _ _ us hl => match us, hl with | [_, _], _ => rfl,
    ff_of (fun_mk (st := s_is_clean) l14 c14 k14) (PySem.W.mg_of X G a14) fun _ _ _ _ _ _ us hl => match us, hl with | [_, _], _ => rfl,
    ff_of (fun_mk (st := s_shared_letters) l15 c15 k15) (PySem.W.mg_of X G a15) fun _ _ _ _ _ _ us hl => match us, hl with | [_], _ => rfl,
    ff_of (fun_mk (st := s_order_kept) l16 c16 k16) (PySem.W.mg_of X G a16) fun _ _ _ _ _ _ us hl => match us, hl with | [_, _, _], _ => rfl,
    ff_of (fun_mk (st := s__law_draws) l17 c17 k17) (PySem.W.mg_of X G a17) fun _ _ _ _ _ _ us hl => match us, hl with | [_, _], _ => rfl,
    ff_of (fun_mk (st := s__law_next) l18 c18 k18) (PySem.W.mg_of X G a18) fun _ _ _ _ _ _ us hl => match us, hl with | [_, _], _ => rfl,
    ff_of (fun_mk (st := s__law_pick) l19 c19 k19) (PySem.W.mg_of X G a19) fun _ _ _ _ _ _ us hl => match us, hl with | [_, _], _ => rfl,
    ff_of (fun_mk (st := s__law_says) l20 c20 k20) (PySem.W.mg_of X G a20) fun _ _ _ _ _ _ us hl => match us, hl with | [_, _], _ => rfl,
    ff_of (fun_mk (st := s__law_same) l21 c21 k21) (PySem.W.mg_of X G a21) fun _ _ _ _ _ _ us hl => match us, hl with | [_, _], _ => rfl,
    ff_of (fun_mk (st := s__law_fraction) l22 c22 k22) (PySem.W.mg_of X G a22) fun _ _ _ _ _ _ us hl => match us, hl with | [_, _], _ => rfl,
    ff_of (fun_mk (st := s__law_less) l23 c23 k23) (PySem.W.mg_of X G a23) fun _ _ _ _ _ _ us hl => match us, hl with | [_, _], _ => rfl,
    ff_of (fun_mk (st := s__law_alphabet) l24 c24 k24) (PySem.W.mg_of X G a24) fun _ _ _ _ _ _ us hl => match us, hl with | [_, _], _ => rfl,
    ff_of (fun_mk (st := s__law_key) l25 c25 k25) (PySem.W.mg_of X G a25) fun _ _ _ _ _ _ us hl => match us, hl with | [_, _], _ => rfl,
    ff_of (fun_mk (st := s__law_written) l26 c26 k26) (PySem.W.mg_of X G a26) fun _ _ _ _ _ _ us hl => match us, hl with | [_, _], _ => rfl,
    ff_of (fun_mk (st := s__law_ahead) l27 c27 k27) (PySem.W.mg_of X G a27) fun _ _ _ _ _ _ us hl => match us, hl with | [_, _], _ => rfl,
    ff_of (fun_mk (st := s__law_clean) l28 c28 k28) (PySem.W.mg_of X G a28) fun _ _ _ _ _ _ us hl => match us, hl with | [_, _], _ => rfl⟩
  exact ⟨PySem.W.fnOf "law" "law" (defArgs s_law) (defBody s_law) (defScope s_law) .none kV29 dc29 pm29 an29 cd29 ct29, fun s v => .of_eq rfl, fun base _ _ => d_law ev (fun_mk (st := s_law) l29 c29 k29)⟩
end LX
open PySem PySem.W PyProof.Rows
set_option maxHeartbeats 0 in
theorem PySem.Challenge.cw_filedbyrule_k34_several_tongues_holds : PySem.Challenge.rw_filedbyrule_k34_several_tongues.Holds := by
  w_on; o_law; k_head; (case hw => w_witness2)
  k_fill
  refine L2.walk_of (l := PySem.Challenge.rw_filedbyrule_k34_several_tongues) (n := 63) (k := 14) (x := "script") (CX := fun _ => L2.CX0) (sp := fun w => PL.SpP _ 1 LX.k_law) rfl (by decide) rfl ⟨rfl, by decide, by decide⟩ (fun w h Y => PySem.W.kIn_of Y) ?F (fun _ _ a ns hl _ hS => PL.sp_script hS (LX.law_ok ns hl)) (fun _ _ _ _ _ h => h)
  case F =>
    intro w mg fa h KX G hmg
    refine' LX.all_mk KX G hmg ?a1 ?l1 ?c1 ?k1 ?a2 ?l2 ?c2 ?k2 ?a3 ?l3 ?c3 ?k3 ?a4 ?l4 ?c4 ?k4 ?a5 ?l5 ?c5 ?k5 ?a6 ?l6 ?c6 ?k6 ?a7 ?l7 ?c7 ?k7 ?a8 ?l8 ?c8 ?k8 ?a9 ?l9 ?c9 ?k9 ?a10 ?l10 ?c10 ?k10 ?a11 ?l11 ?c11 ?k11 ?a12 ?l12 ?c12 ?k12 ?a13 ?l13 ?c13 ?k13 ?a14 ?l14 ?c14 ?k14 ?a15 ?l15 ?c15 ?k15 ?a16 ?l16 ?c16 ?k16 ?a17 ?l17 ?c17 ?k17 ?a18 ?l18 ?c18 ?k18 ?a19 ?l19 ?c19 ?k19 ?a20 ?l20 ?c20 ?k20 ?a21 ?l21 ?c21 ?k21 ?a22 ?l22 ?c22 ?k22 ?a23 ?l23 ?c23 ?k23 ?a24 ?l24 ?c24 ?k24 ?a25 ?l25 ?c25 ?k25 ?a26 ?l26 ?c26 ?k26 ?a27 ?l27 ?c27 ?k27 ?a28 ?l28 ?c28 ?k28 ?a29 ?l29 ?c29 ?k29 ?z1 ?z2 ?z3 ?z4 ?z5 ?z6 ?z7 ?z8 ?z9 ?z10 ?z11 ?z12 ?z13 ?z14 ?z15 ?z16 ?z17 ?z18 ?z19
    (case a1 => k_is); (case l1 => k_is); (case c1 => k_is); (case k1 => k_is); (case a2 => k_is); (case l2 => k_is); (case c2 => k_is); (case k2 => k_is); (case a3 => k_is); (case l3 => k_is); (case c3 => k_is); (case k3 => k_is); (case a4 => k_is); (case l4 => k_is); (case c4 => k_is); (case k4 => k_is); (case a5 => k_is); (case l5 => k_is); (case c5 => k_is); (case k5 => k_is); (case a6 => k_is); (case l6 => k_is); (case c6 => k_is); (case k6 => k_is); (case a7 => k_is); (case l7 => k_is); (case c7 => k_is); (case k7 => k_is); (case a8 => k_is); (case l8 => k_is); (case c8 => k_is); (case k8 => k_is); (case a9 => k_is); (case l9 => k_is); (case c9 => k_is); (case k9 => k_is); (case a10 => k_is); (case l10 => k_is); (case c10 => k_is); (case k10 => k_is); (case a11 => k_is); (case l11 => k_is); (case c11 => k_is); (case k11 => k_is); (case a12 => k_is); (case l12 => k_is); (case c12 => k_is); (case k12 => k_is); (case a13 => k_is); (case l13 => k_is); (case c13 => k_is); (case k13 => k_is); (case a14 => k_is); (case l14 => k_is); (case c14 => k_is); (case k14 => k_is); (case a15 => k_is); (case l15 => k_is); (case c15 => k_is); (case k15 => k_is); (case a16 => k_is); (case l16 => k_is); (case c16 => k_is); (case k16 => k_is); (case a17 => k_is); (case l17 => k_is); (case c17 => k_is); (case k17 => k_is); (case a18 => k_is); (case l18 => k_is); (case c18 => k_is); (case k18 => k_is); (case a19 => k_is); (case l19 => k_is); (case c19 => k_is); (case k19 => k_is); (case a20 => k_is); (case l20 => k_is); (case c20 => k_is); (case k20 => k_is); (case a21 => k_is); (case l21 => k_is); (case c21 => k_is); (case k21 => k_is); (case a22 => k_is); (case l22 => k_is); (case c22 => k_is); (case k22 => k_is); (case a23 => k_is); (case l23 => k_is); (case c23 => k_is); (case k23 => k_is); (case a24 => k_is); (case l24 => k_is); (case c24 => k_is); (case k24 => k_is); (case a25 => k_is); (case l25 => k_is); (case c25 => k_is); (case k25 => k_is); (case a26 => k_is); (case l26 => k_is); (case c26 => k_is); (case k26 => k_is); (case a27 => k_is); (case l27 => k_is); (case c27 => k_is); (case k27 => k_is); (case a28 => k_is); (case l28 => k_is); (case c28 => k_is); (case k28 => k_is); (case a29 => k_is); (case l29 => k_is); (case c29 => k_is); (case k29 => k_is); (case z1 => k_is); (case z2 => k_is); (case z3 => k_is); (case z4 => k_is); (case z5 => k_is); (case z6 => k_is); (case z7 => k_is); (case z8 => k_is); (case z9 => k_is); (case z10 => k_is); (case z11 => k_is); (case z12 => k_is); (case z13 => k_is); (case z14 => k_is); (case z15 => k_is); (case z16 => k_is); (case z17 => k_is); (case z18 => k_is); (case z19 => k_is)
namespace LX
end LX
