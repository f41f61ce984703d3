import PyProof.Rows.All
import Wide.All
import OpenK.AllK
import Wide.FinOn
import HandS.ForMost
import HandS.Defaults
import HandS.IsInst
import HandS.DictComp
import HandS.ListItems
import HandS.Style
import HandS.Zip
import KE.KIntText
import HandS.More
import HandS.TryOnly
import KE.KDictZip
import HandS.FStrTup
import PyProof.ReprRoads
import HandS.Small
import HandS.Exc
import HandS.ExcInit
import KE.KExcSuper
import HandS.Lambda
import HandS.HotCalls
import HandS.EndBits
import HandS.EndTab
import KE.KNestM
import HandS.Head0
import HandS.Head1
import HandS.Head2
import HandS.HeadHook4
import KE.KStateDown
import PySem.Challenge.RW_ringnumber_k58_whole_maps_judged
set_option Elab.async false
set_option linter.all false
set_option maxRecDepth 100000
set_option maxHeartbeats 4000000
/-! ground of the proofs: what stays of the heap, data that nobody changes, short rules -/
namespace RG
open PySem PySem.Spec PyProof.Rows L2

/-! ### what stays -/
/-- all objects but those at S stay as they are, none goes -/
structure Nx (S : List Addr) (H H' : Hp) : Prop where
  kp : ∀ a o, a ∉ S → H a = some o → H' a = some o
  th : ∀ a, H a ≠ none → H' a ≠ none
theorem Nx.refl (S : List Addr) (H : Hp) : Nx S H H := ⟨fun _ _ _ h => h, fun _ h => h⟩
theorem Nx.trans {S : List Addr} {H H1 H2 : Hp} (a : Nx S H H1) (b : Nx S H1 H2) : Nx S H H2 :=
  ⟨fun c o hc h => b.kp c o hc (a.kp c o hc h), fun c h => b.th c (a.th c h)⟩
theorem Nx.mono {S S' : List Addr} {H H1 : Hp} (a : Nx S H H1) (h : ∀ x ∈ S, x ∈ S') : Nx S' H H1 :=
  ⟨fun c o hc e => a.kp c o (fun z => hc (h c z)) e, a.th⟩
theorem Nx.of0 {S : List Addr} {H H1 : Hp} (a : Nx [] H H1) : Nx S H H1 := a.mono (fun _ z => absurd z (by simp))
theorem Nx.new {S : List Addr} {H : Hp} {p : Addr} {o : HO} (n : H p = none) : Nx S H (upd H p o) :=
  ⟨fun c u _ e => by rw [upd_ne (ne_of_none e n)]; exact e, fun c e => by
    by_cases h : c = p
    · subst h; rw [upd_same]; simp
    · rw [upd_ne h]; exact e⟩
theorem Nx.put {S : List Addr} {H : Hp} {p : Addr} {o : HO} (h : p ∈ S) : Nx S H (upd H p o) :=
  ⟨fun c u hc e => by rw [upd_ne (fun z => hc (by rw [z]; exact h))]; exact e, fun c e => by
    by_cases h : c = p
    · subst h; rw [upd_same]; simp
    · rw [upd_ne h]; exact e⟩
theorem Nx.fresh {S : List Addr} {H H' : Hp} (g : Nx S H H') {p : Addr} (h : H' p = none) : H p = none := by
  cases e : H p with
  | none => rfl
  | some o => exact absurd h (g.th p (by rw [e]; simp))
/-- what was written at p, new in H, does not count -/
theorem Nx.drop {S : List Addr} {p : Addr} {H H' : Hp} (g : Nx (p :: S) H H') (n : H p = none) : Nx S H H' :=
  ⟨fun c o hc e => g.kp c o (fun z => by
    rcases List.mem_cons.mp z with z | z
    · rw [z, n] at e; cases e
    · exact hc z) e, g.th⟩
theorem Nx.newP {S : List Addr} {H H1 : Hp} {p : Addr} {o : HO} (g : Nx S H H1) (n : H1 p = none) : Nx S H (upd H1 p o) := g.trans (.new n)
theorem Nx.putP {S : List Addr} {H H1 : Hp} {p : Addr} {o : HO} (g : Nx S H H1) (h : p ∈ S) : Nx S H (upd H1 p o) := g.trans (.put h)

/-- the addresses of S are taken -/
def Al (S : List Addr) (H : Hp) : Prop := ∀ a ∈ S, H a ≠ none
theorem Al.mono {S T : List Addr} {H H' : Hp} (h : Al S H) (g : Nx T H H') : Al S H' := fun a ha => g.th a (h a ha)
theorem Al.ne {S : List Addr} {H : Hp} (h : Al S H) {p : Addr} (n : H p = none) : p ∉ S := fun z => h p z n
theorem Al.nil {H : Hp} : Al [] H := fun _ z => absurd z (by simp)
theorem Al.cons {S : List Addr} {H : Hp} {p : Addr} {o : HO} (h : Al S H) (e : H p = some o) : Al (p :: S) H := fun a ha => by
  rcases List.mem_cons.mp ha with z | z
  · rw [z, e]; simp
  · exact h a z
theorem Al.one {H : Hp} {p : Addr} {o : HO} (e : H p = some o) : Al [p] H := Al.nil.cons e
theorem Al.new {S : List Addr} {H : Hp} {p : Addr} {o : HO} (h : Al S H) (n : H p = none) : Al (p :: S) (upd H p o) := (h.mono (T := []) (.new n)).cons upd_same

theorem Nx.of0' {S T : List Addr} {H H' : Hp} (g : Nx T H H') (h : Al S H) {a : Addr} (ha : a ∈ S) : H' a ≠ none := g.th a (h a ha)
/-- an object of one's own, beside S -/
structure Ow (S : List Addr) (H : Hp) (p : Addr) (o : HO) : Prop where
  ni : p ∉ S
  at_ : H p = some o
theorem Ow.mono {S : List Addr} {H H' : Hp} {p : Addr} {o : HO} (g : Nx S H H') (h : Ow S H p o) : Ow S H' p o := ⟨h.ni, g.kp p o h.ni h.at_⟩
theorem Ow.new {S : List Addr} {H : Hp} {p : Addr} {o : HO} (a : Al S H) (n : H p = none) : Ow S (upd H p o) p o := ⟨a.ne n, upd_same⟩

/-! ### data that nobody changes (nothing of it stands at S) -/
def kD : Key → PyData
  | .inl i => .int i
  | .inr x => .str x
theorem kD_inj : ∀ {k l : Key}, kD k = kD l → k = l
  | .inl i, .inl j, h => by cases h; rfl
  | .inr x, .inr y, h => by cases h; rfl
  | .inl i, .inr y, h => by cases h
  | .inr x, .inl j, h => by cases h
mutual
inductive Im (S : List Addr) (H : Hp) : V → PyData → Prop
  | non : Im S H .non .none
  | bl (b : Bool) : Im S H (.bl b) (.bool b)
  | int (i : Int) : Im S H (.int i) (.int i)
  | str (x : Str) : Im S H (.str x) (.str x)
  | lst {a : Addr} {xs : List V} {ds : List PyData} : a ∉ S → Rd H a (.lst xs) → ImAll S H xs ds → Im S H (.ref a) (.list ds)
  | tup {a : Addr} {xs : List V} {ds : List PyData} : a ∉ S → Rd H a (.tup xs) → ImAll S H xs ds → Im S H (.ref a) (.tuple ds)
  | dct {a : Addr} {kvs : List (Key × V)} {ds : List (PyData × PyData)} : a ∉ S → Rd H a (.dK kvs) → (kvs.map (·.1)).Nodup → ImKv S H kvs ds → Im S H (.ref a) (.dict ds)
inductive ImAll (S : List Addr) (H : Hp) : List V → List PyData → Prop
  | nil : ImAll S H [] []
  | cons {v : V} {vs : List V} {d : PyData} {ds : List PyData} : Im S H v d → ImAll S H vs ds → ImAll S H (v :: vs) (d :: ds)
inductive ImKv (S : List Addr) (H : Hp) : List (Key × V) → List (PyData × PyData) → Prop
  | nil : ImKv S H [] []
  | cons {k : Key} {v : V} {vs : List (Key × V)} {d : PyData} {ds : List (PyData × PyData)} : Im S H v d → ImKv S H vs ds → ImKv S H ((k, v) :: vs) ((kD k, d) :: ds)
end
/-- what is read beside S is read as before -/
structure NF (u : HO) : Prop where
  fz : ∀ o v, u ≠ .frz o v
  tb : ∀ ps, u ≠ .tbl ps
theorem NF.l {xs : List V} : NF (.lst xs) := ⟨fun _ _ z => (by cases z), fun _ z => (by cases z)⟩
theorem NF.t {xs : List V} : NF (.tup xs) := ⟨fun _ _ z => (by cases z), fun _ z => (by cases z)⟩
theorem NF.d {xs : List (Key × V)} : NF (.dK xs) := ⟨fun _ _ z => (by cases z), fun _ z => (by cases z)⟩
def Rx (S : List Addr) (H H' : Hp) : Prop := ∀ a u, a ∉ S → NF u → Rd H a u → Rd H' a u
theorem Nx.rx {S : List Addr} {H H' : Hp} (g : Nx S H H') : Rx S H H' := fun a u hs _ r => by
  rcases r with r | ⟨o, r⟩
  · exact .inl (g.kp a _ hs r)
  · exact .inr ⟨o, g.kp a _ hs r⟩
theorem Rx.refl (S : List Addr) (H : Hp) : Rx S H H := fun _ _ _ _ r => r
theorem Rx.trans {S : List Addr} {H H1 H2 : Hp} (a : Rx S H H1) (b : Rx S H1 H2) : Rx S H H2 := fun c u hc n r => b c u hc n (a c u hc n r)
theorem Rx.mono {S S' : List Addr} {H H1 : Hp} (a : Rx S H H1) (h : ∀ x ∈ S, x ∈ S') : Rx S' H H1 := fun c u hc n r => a c u (fun z => hc (h c z)) n r
theorem Rx.mono0 {S : List Addr} {H H1 : Hp} (a : Rx [] H H1) : Rx S H H1 := a.mono (fun _ z => absurd z (by simp))
theorem Rx.lock {S : List Addr} {H : Hp} {d : Addr} {u : HO} {od : Obj} (h : H d = some u) (nf : NF u) : Rx S H (upd H d (.frz od u)) := fun a w hs hw r => by
  by_cases e : a = d
  · subst e
    rcases r with r | ⟨o, r⟩
    · rw [h] at r; cases r; exact .inr ⟨od, upd_same⟩
    · rw [h] at r; cases r; exact absurd rfl (nf.fz _ _)
  · rcases r with r | ⟨o, r⟩
    · exact .inl (by rw [upd_ne e]; exact r)
    · exact .inr ⟨o, by rw [upd_ne e]; exact r⟩
theorem Rx.unlock {S : List Addr} {H : Hp} {d : Addr} {u : HO} {od : Obj} (h : H d = some (.frz od u)) : Rx S H (upd H d u) := fun a w hs hw r => by
  by_cases e : a = d
  · subst e
    rcases r with r | ⟨o, r⟩
    · rw [h] at r; cases r; exact absurd rfl (hw.fz _ _)
    · rw [h] at r; cases r; exact .inl upd_same
  · rcases r with r | ⟨o, r⟩
    · exact .inl (by rw [upd_ne e]; exact r)
    · exact .inr ⟨o, by rw [upd_ne e]; exact r⟩
section
variable {S : List Addr} {H H' : Hp}
mutual
theorem Im.rx (g : Rx S H H') : ∀ (d : PyData) {v : V}, Im S H v d → Im S H' v d
  | .none, _, h => by cases h; exact .non
  | .bool b, _, h => by cases h; exact .bl b
  | .int i, _, h => by cases h; exact .int i
  | .str x, _, h => by cases h; exact .str x
  | .list ds, _, h => by
    cases h with
    | lst n r a => exact .lst n (g _ _ n .l r) (ImAll.rx g ds a)
  | .tuple ds, _, h => by
    cases h with
    | tup n r a => exact .tup n (g _ _ n .t r) (ImAll.rx g ds a)
  | .dict ds, _, h => by
    cases h with
    | dct n r nd a => exact .dct n (g _ _ n .d r) nd (ImKv.rx g ds a)
theorem ImAll.rx (g : Rx S H H') : ∀ (ds : List PyData) {vs : List V}, ImAll S H vs ds → ImAll S H' vs ds
  | [], _, h => by cases h; exact .nil
  | d :: ds, _, h => by
    cases h with
    | cons a b => exact .cons (Im.rx g d a) (ImAll.rx g ds b)
theorem ImKv.rx (g : Rx S H H') : ∀ (ds : List (PyData × PyData)) {vs : List (Key × V)}, ImKv S H vs ds → ImKv S H' vs ds
  | [], _, h => by cases h; exact .nil
  | (k, d) :: ds, _, h => by
    cases h with
    | cons a b => exact .cons (Im.rx g d a) (ImKv.rx g ds b)
end
theorem Im.nx (g : Nx S H H') {d : PyData} {v : V} (h : Im S H v d) : Im S H' v d := h.rx g.rx d
theorem ImAll.nx (g : Nx S H H') {d : List PyData} {v : List V} (h : ImAll S H v d) : ImAll S H' v d := h.rx g.rx d
theorem ImKv.nx (g : Nx S H H') {d : List (PyData × PyData)} {v : List (Key × V)} (h : ImKv S H v d) : ImKv S H' v d := h.rx g.rx d
variable {T : List Addr}
/-- the nodes are there: a new address is none of them -/
theorem rd_some {a : Addr} {u : HO} (r : Rd H a u) : H a ≠ none := by
  rcases r with r | ⟨o, r⟩ <;> rw [r] <;> simp
mutual
theorem Im.sub (g : ∀ a ∈ T, a ∈ S ∨ H a = none) : ∀ (d : PyData) {v : V}, Im S H v d → Im T H v d
  | .none, _, h => by cases h; exact .non
  | .bool b, _, h => by cases h; exact .bl b
  | .int i, _, h => by cases h; exact .int i
  | .str x, _, h => by cases h; exact .str x
  | .list ds, _, h => by
    cases h with
    | lst n r a => exact .lst (fun z => (g _ z).elim n fun q => rd_some r q) r (ImAll.sub g ds a)
  | .tuple ds, _, h => by
    cases h with
    | tup n r a => exact .tup (fun z => (g _ z).elim n fun q => rd_some r q) r (ImAll.sub g ds a)
  | .dict ds, _, h => by
    cases h with
    | dct n r nd a => exact .dct (fun z => (g _ z).elim n fun q => rd_some r q) r nd (ImKv.sub g ds a)
theorem ImAll.sub (g : ∀ a ∈ T, a ∈ S ∨ H a = none) : ∀ (ds : List PyData) {vs : List V}, ImAll S H vs ds → ImAll T H vs ds
  | [], _, h => by cases h; exact .nil
  | d :: ds, _, h => by
    cases h with
    | cons a b => exact .cons (Im.sub g d a) (ImAll.sub g ds b)
theorem ImKv.sub (g : ∀ a ∈ T, a ∈ S ∨ H a = none) : ∀ (ds : List (PyData × PyData)) {vs : List (Key × V)}, ImKv S H vs ds → ImKv T H vs ds
  | [], _, h => by cases h; exact .nil
  | (k, d) :: ds, _, h => by
    cases h with
    | cons a b => exact .cons (Im.sub g d a) (ImKv.sub g ds b)
end
/-- a new object at p: older data does not stand there -/
theorem Im.apart {p : Addr} {o : HO} (n : H p = none) {d : PyData} {v : V} (h : Im S H v d) : Im (p :: S) (upd H p o) v d :=
  Im.rx (Nx.rx (.new n)) d (Im.sub (fun a ha => (List.mem_cons.mp ha).elim (fun z => .inr (by rw [z]; exact n)) .inl) d h)
theorem ImAll.apart {p : Addr} {o : HO} (n : H p = none) {d : List PyData} {v : List V} (h : ImAll S H v d) : ImAll (p :: S) (upd H p o) v d :=
  ImAll.rx (Nx.rx (.new n)) d (ImAll.sub (fun a ha => (List.mem_cons.mp ha).elim (fun z => .inr (by rw [z]; exact n)) .inl) d h)
theorem Im.tail {p : Addr} {d : PyData} {v : V} (h : Im (p :: S) H v d) : Im S H v d := Im.sub (fun _ ha => .inl (List.mem_cons_of_mem _ ha)) d h
theorem ImAll.tail {p : Addr} {d : List PyData} {v : List V} (h : ImAll (p :: S) H v d) : ImAll S H v d := ImAll.sub (fun _ ha => .inl (List.mem_cons_of_mem _ ha)) d h
theorem ImKv.tail {p : Addr} {d : List (PyData × PyData)} {v : List (Key × V)} (h : ImKv (p :: S) H v d) : ImKv S H v d := ImKv.sub (fun _ ha => .inl (List.mem_cons_of_mem _ ha)) d h
theorem ImAll.length : ∀ {vs : List V} {ds : List PyData}, ImAll S H vs ds → vs.length = ds.length
  | _, _, .nil => rfl
  | _, _, .cons _ t => by rw [List.length_cons, List.length_cons, ImAll.length t]
theorem ImKv.length : ∀ {vs : List (Key × V)} {ds : List (PyData × PyData)}, ImKv S H vs ds → vs.length = ds.length
  | _, _, .nil => rfl
  | _, _, .cons _ t => by rw [List.length_cons, List.length_cons, ImKv.length t]
theorem ImAll.get : ∀ {vs : List V} {ds : List PyData}, ImAll S H vs ds → ∀ {i : Nat} {d : PyData}, ds[i]? = some d → ∃ v, vs[i]? = some v ∧ Im S H v d
  | _, _, .nil, i, d, e => by simp at e
  | _, _, .cons a t, 0, d, e => by simp at e; subst e; exact ⟨_, rfl, a⟩
  | _, _, .cons a t, i + 1, d, e => by
    simp at e
    obtain ⟨v, h1, h2⟩ := ImAll.get t e
    exact ⟨v, by simpa using h1, h2⟩
theorem ImAll.append : ∀ {vs : List V} {ds : List PyData} {ws : List V} {es : List PyData}, ImAll S H vs ds → ImAll S H ws es → ImAll S H (vs ++ ws) (ds ++ es)
  | _, _, _, _, .nil, h => h
  | _, _, _, _, .cons a t, h => .cons a (ImAll.append t h)
theorem ImAll.ints : ∀ ns : List Int, ImAll S H (ns.map V.int) (ns.map PyData.int)
  | [] => .nil
  | n :: r => .cons (.int n) (ImAll.ints r)
theorem ImAll.strs : ∀ ns : List Str, ImAll S H (ns.map V.str) (ns.map PyData.str)
  | [] => .nil
  | n :: r => .cons (.str n) (ImAll.strs r)
theorem ImAll.ints_inv : ∀ {ns : List Int} {vs : List V}, ImAll S H vs (ns.map PyData.int) → vs = ns.map V.int
  | [], _, .nil => rfl
  | n :: r, _, .cons a t => by cases a; rw [List.map_cons, ImAll.ints_inv t]
theorem ImAll.strs_inv : ∀ {ns : List Str} {vs : List V}, ImAll S H vs (ns.map PyData.str) → vs = ns.map V.str
  | [], _, .nil => rfl
  | n :: r, _, .cons a t => by cases a; rw [List.map_cons, ImAll.strs_inv t]
end

/-! ### a spring: three numbers; so many draws at most were made -/
structure Spr (H : Hp) (s : Addr) (n : Nat) : Prop where
  ex : ∃ x y z : Int, H s = some (.lst [.int x, .int y, .int z]) ∧ 0 ≤ x ∧ 0 ≤ y ∧ y < 2147483647 ∧ 0 ≤ z ∧ z ≤ n
theorem Spr.nx {S : List Addr} {H H' : Hp} {s : Addr} {n : Nat} (g : Nx S H H') (hs : s ∉ S) (h : Spr H s n) : Spr H' s n := by
  obtain ⟨x, y, z, e, q⟩ := h.ex
  exact ⟨x, y, z, g.kp s _ hs e, q⟩
theorem Spr.le {H : Hp} {s : Addr} {n m : Nat} (h : Spr H s n) (l : n ≤ m) : Spr H s m := by
  obtain ⟨x, y, z, e, a, b, c, d, f⟩ := h.ex
  exact ⟨x, y, z, e, a, b, c, d, by omega⟩
theorem Spr.al {H : Hp} {s : Addr} {n : Nat} (h : Spr H s n) : H s ≠ none := by
  obtain ⟨x, y, z, e, _⟩ := h.ex
  rw [e]; simp

/-! ### lists and tuples that are read -/
theorem sql_nx {K : PySem.W.Frag} {S : List Addr} {H H' : Hp} {a : Addr} {xs : List V} (g : Nx S H H') (hs : a ∉ S) (h : SqL K H a xs) : SqL K H' a xs :=
  h.elim (fun r => .inl (g.rx a _ hs .l r)) .inr
theorem sqt_nx {K : PySem.W.Frag} {S : List Addr} {H H' : Hp} {a : Addr} {xs : List V} (g : Nx S H H') (hs : a ∉ S) (h : SqT K H a xs) : SqT K H' a xs :=
  h.elim (fun r => .inl (g.rx a _ hs .t r)) .inr

/-! ### a def of the text, by its name -/
/-- the name x stands for a def that keeps the promise sp, at level k -/
structure Df (P : Program) (w : World) (K : PySem.W.Frag) (mg : Str → Option Value) (base : Heap) (CX : CXT) (k : Nat) (x : Str) (ps : List Str) (sp : Sp) : Prop where
  ex : ∃ (f : Addr) (fd : FuncData), mg x = some (.ref f) ∧ FnOk P w K mg base CX k f fd ps sp ∧ PySem.W.keepIn K (.ref f) = true ∧ Binds K fd ps []
section
variable {X : Cx} {x : Str} {k j : Nat} {ps : List Str} {sp : Sp} {p pos : Pos} {e : Expr} {es : List Expr} {t : TA}
theorem pe_df (D : Df X.prog X.w X.K X.mg X.base CX0 j x ps sp) (hr : Room k X.A) (ha : PA X (e :: es) t) (hj : j ≤ k := by first | decide | omega) (hg : Gl X x := by rfl)
    (hdb : (x == ("__debug__" : Str)) = false := by decide) (he : starEach (e :: es) X.env = (false, eval e X.env) :: starEach es X.env := by rfl) (hpl : (backTo pos (starEach es X.env)).any (·.1) = false := by rfl) :
    PE X (.Call (.Name x p) (e :: es) [] pos) (tCall sp [] E0 t) := by
  obtain ⟨f, fd, hm, F, hk, hb⟩ := D.ex
  exact pe_call F (hr.mono hj) hg hm hk hb .nil pass0 ha hdb he hpl
/-- a written number of the module -/
theorem pe_gi {i : Int} (h : ∃ t, X.mg x = some (.int i t)) (hg : Gl X x := by rfl) (hd : (x == ("__debug__" : Str)) = false := by decide) : PE X (.Name x p) (tC (.int i)) := by
  obtain ⟨t, h⟩ := h
  exact pe_glob hg h ⟨t, rfl⟩ hd
theorem pe_gs {z : Str} (h : ∃ t, X.mg x = some (.str z t)) (hg : Gl X x := by rfl) (hd : (x == ("__debug__" : Str)) = false := by decide) : PE X (.Name x p) (tC (.str z)) := by
  obtain ⟨t, h⟩ := h
  exact pe_glob hg h ⟨t, rfl⟩ hd
end
/-- the built-in names that the text uses are the built-in ones -/
structure Bn (mg : Str → Option Value) : Prop where
  len : mg "len" = none
  isinstance : mg "isinstance" = none
  int : mg "int" = none
  bool : mg "bool" = none
  str : mg "str" = none
  list : mg "list" = none
  dict : mg "dict" = none
  tuple : mg "tuple" = none
  range : mg "range" = none
  enumerate : mg "enumerate" = none
  zip : mg "zip" = none
  sorted : mg "sorted" = none
  max : mg "max" = none
  min : mg "min" = none
  all : mg "all" = none
  any : mg "any" = none
  repr : mg "repr" = none
  sum : mg "sum" = none
  abs : mg "abs" = none
  super : mg "super" = none
end RG

/-! further rules -/
namespace RG
open PySem PySem.Spec PyProof.Rows L2
section
variable {X : Cx}
/-- a, b = x, y, the names local or captured -/
def tPar2 (i1 i2 : Nat) (ta : TA) : TS := fun D σ H => ta σ H fun vs H1 => ∃ v1 v2, vs = [v1, v2] ∧ D.nx ((σ.set i1 (some v1)).set i2 (some v2)) H1
theorem ps_parG2 {i1 i2 : Nat} {x y : Str} {a b : Expr} {ta : TA} {px py pt pos : Pos} {kt k2 pt2} (hc : X.calm = true) (nd : X.N.Nodup) (h1 : X.N[i1]? = some x) (h2 : X.N[i2]? = some y) (d12 : i1 ≠ i2)
    (l1 : Loc X.env.scope x) (l2 : Loc X.env.scope y) (ha : PA X [a, b] ta) (sw : swappedStores [.Tuple [.Name x px, .Name y py] kt pt] (.Tuple [a, b] k2 pt2) X.env = pure (some [x, y]))
    (f1 : X.fn x = true := by rfl) (f2 : X.fn y = true := by rfl)
    (ss : swapsWithSole [.Tuple [.Name x px, .Name y py] kt pt] (.Tuple [a, b] k2 pt2) pos.line X.env = pure false := by rfl) :
    PS X (.Assign [.Tuple [.Name x px, .Name y py] kt pt] (.Tuple [a, b] k2 pt2) pos) (tPar2 i1 i2 ta) := by
  refine ⟨fun pins s σ H D I h => ?_⟩
  rw [exec_Assign_arm, ss]
  refine wpAny_bind (wpAny_standAt (wpAny_bind (wpAny_pure ?_)))
  rw [if_neg (by decide), sw]
  refine wpAny_bind (Tuple_ (thn (ha.run _ pins s σ H _ I h) fun us s1 ⟨vs, H1, I1, r1, v1, v2, e1, q⟩ => ?_))
  subst e1
  obtain ⟨u1, u2, rfl, r3, r4⟩ := vals2 r1
  refine wpAny_newObj_type (wpAny_bind (wpAny_pure ?_)) (show 2 ≤ sizeLine by decide)
  have J := I1.kept (t' := s1.toks) (h' := s1.heap.push { cls := .type "tuple", data := .seq [u1, u2].toArray }) fun c o e => Heap.get?_push_of_some _ e
  show wpAny (model X.prog X.w) X.A (do rule "assign.swapped-stores"; let l ← unpackItems (.ref s1.heap.objs.size) 2 none; assignInOrder [fun v => bindName X.env y v, fun v => bindName X.env x v] l.reverse; pure Flow.next) _ _ _
  refine wpAny_bind (wpAny_rule (wpAny_bind (unpackItems_tuple (items := #[u1, u2]) (I1.ok.hd hc) (IsTup.new s1.heap _) fun h' k => ?_)))
  have J2 := J.kept (h' := h') (t' := s1.toks) fun c o e => k c o (Nat.ne_of_lt (Heap.lt_size e)) e
  show wpAny _ _ (assignInOrder [fun v => bindName X.env y v, fun v => bindName X.env x v] [u2, u1] >>= fun _ => pure Flow.next) _ _ _
  refine wpAny_bind (assignInOrder_cons (wpAny_bindName (store_ok J2 nd h2 l2 r4 (fun s2 I4 => ?_) (.inl f2))))
  refine assignInOrder_cons (wpAny_bindName (store_ok I4 nd h1 l1 r3 (fun s3 I5 => assignInOrder_nil (wpAny_pure ?_)) (.inl f1)))
  rw [List.set_comm _ _ (Ne.symm d12)] at I5
  exact ⟨_, H1, I5, q⟩
def tPar3 (i1 i2 i3 : Nat) (ta : TA) : TS := fun D σ H => ta σ H fun vs H1 => ∃ v1 v2 v3, vs = [v1, v2, v3] ∧ D.nx (((σ.set i1 (some v1)).set i2 (some v2)).set i3 (some v3)) H1
theorem ps_parG3 {i1 i2 i3 : Nat} {x y z : Str} {a b c : Expr} {ta : TA} {px py pz pt pos : Pos} {kt k2 pt2} (hc : X.calm = true) (nd : X.N.Nodup) (h1 : X.N[i1]? = some x) (h2 : X.N[i2]? = some y) (h3 : X.N[i3]? = some z) (d12 : i1 ≠ i2) (d13 : i1 ≠ i3) (d23 : i2 ≠ i3)
    (l1 : Loc X.env.scope x) (l2 : Loc X.env.scope y) (l3 : Loc X.env.scope z) (ha : PA X [a, b, c] ta) (sw : swappedStores [.Tuple [.Name x px, .Name y py, .Name z pz] kt pt] (.Tuple [a, b, c] k2 pt2) X.env = pure (some [x, y, z]))
    (f1 : X.fn x = true := by rfl) (f2 : X.fn y = true := by rfl) (f3 : X.fn z = true := by rfl)
    (ss : swapsWithSole [.Tuple [.Name x px, .Name y py, .Name z pz] kt pt] (.Tuple [a, b, c] k2 pt2) pos.line X.env = pure false := by rfl) :
    PS X (.Assign [.Tuple [.Name x px, .Name y py, .Name z pz] kt pt] (.Tuple [a, b, c] k2 pt2) pos) (tPar3 i1 i2 i3 ta) := by
  refine ⟨fun pins s σ H D I h => ?_⟩
  rw [exec_Assign_arm, ss]
  refine wpAny_bind (wpAny_standAt (wpAny_bind (wpAny_pure ?_)))
  rw [if_neg (by decide), sw]
  refine wpAny_bind (Tuple_ (thn (ha.run _ pins s σ H _ I h) fun us s1 ⟨vs, H1, I1, r1, v1, v2, v3, e1, q⟩ => ?_))
  subst e1
  obtain ⟨u1, u2, u3, rfl, r3, r4, r5⟩ : ∃ u1 u2 u3, us = [u1, u2, u3] ∧ RelV v1 u1 ∧ RelV v2 u2 ∧ RelV v3 u3 := by
    cases r1 with
    | cons p q => obtain ⟨u2, u3, rfl, p2, p3⟩ := vals2 q; exact ⟨_, u2, u3, rfl, p, p2, p3⟩
  refine wpAny_newObj_type (wpAny_bind (wpAny_pure ?_)) (show 3 ≤ sizeLine by decide)
  have J := I1.kept (t' := s1.toks) (h' := s1.heap.push { cls := .type "tuple", data := .seq [u1, u2, u3].toArray }) fun c o e => Heap.get?_push_of_some _ e
  show wpAny (model X.prog X.w) X.A (do rule "assign.swapped-stores"; let l ← unpackItems (.ref s1.heap.objs.size) 3 none; assignInOrder [fun v => bindName X.env z v, fun v => bindName X.env y v, fun v => bindName X.env x v] l.reverse; pure Flow.next) _ _ _
  refine wpAny_bind (wpAny_rule (wpAny_bind (unpackItems_tuple (items := #[u1, u2, u3]) (I1.ok.hd hc) (IsTup.new s1.heap _) fun h' k => ?_)))
  have J2 := J.kept (h' := h') (t' := s1.toks) fun c o e => k c o (Nat.ne_of_lt (Heap.lt_size e)) e
  show wpAny _ _ (assignInOrder [fun v => bindName X.env z v, fun v => bindName X.env y v, fun v => bindName X.env x v] [u3, u2, u1] >>= fun _ => pure Flow.next) _ _ _
  refine wpAny_bind (assignInOrder_cons (wpAny_bindName (store_ok J2 nd h3 l3 r5 (fun s2 I4 => ?_) (.inl f3))))
  refine assignInOrder_cons (wpAny_bindName (store_ok I4 nd h2 l2 r4 (fun s3 I5 => ?_) (.inl f2)))
  refine assignInOrder_cons (wpAny_bindName (store_ok I5 nd h1 l1 r3 (fun s4 I6 => assignInOrder_nil (wpAny_pure ?_)) (.inl f1)))
  rw [List.set_comm _ _ (Ne.symm d23), List.set_comm _ _ (Ne.symm d13), List.set_comm _ _ (Ne.symm d12)] at I6
  exact ⟨_, H1, I6, q⟩
/-- the key y in the dict -/
def rDin : R2 := fun y x H Q => ∃ a o, x = .ref a ∧ DGet H a y o ∧ Q (.bl o.isSome) H
def rDnotin : R2 := fun y x H Q => ∃ a o, x = .ref a ∧ DGet H a y o ∧ Q (.bl (!o.isSome)) H
theorem op_din (hu : X.A.units + 1 < cLine) : OpR X (compareOp .In) rDin := by
  intro pins s σ H y x iv u Q I ry rx h
  obtain ⟨a, o, ex, g, q⟩ := h
  subst ex
  obtain rfl : u = Value.ref a := rx
  exact d_in hu I g ry fun s3 I3 => ⟨.bl o.isSome, H, I3, rfl, q⟩
theorem op_dnotin (hu : X.A.units + 1 < cLine) : OpR X (compareOp .NotIn) rDnotin := by
  intro pins s σ H y x iv u Q I ry rx h
  obtain ⟨a, o, ex, g, q⟩ := h
  subst ex
  obtain rfl : u = Value.ref a := rx
  exact d_notIn hu I g ry fun s3 I3 => ⟨.bl (!o.isSome), H, I3, rfl, q⟩
end
/-! ### readings, one step at a time -/
section
variable {σ : L2.St} {H : Hp} {Q : VK} {v x y : V} {ta tb te : TE} {D : Ends} {t u : TS} {i : Nat} {K : PySem.W.Frag}
theorem s_seq (h : t { D with nx := u D } σ H) : tSeq t u D σ H := h
theorem s_asg {g : TG} (h : te σ H fun x H1 => g x σ H1 D.nx) : tAsg te g D σ H := h
theorem s_name {Q : L2.St → Hp → Prop} (h : Q (σ.set i (some v)) H) : gName i v σ H Q := h
theorem s_var (e : σ[i]? = some (some v)) (h : Q v H) : tVar i σ H Q := ⟨v, e, h⟩
theorem s_c (h : Q v H) : tC v σ H Q := h
theorem s_op {r : R2} (h : ta σ H fun x H1 => tb σ H1 fun y H2 => r x y H2 Q) : tOp r ta tb σ H Q := h
theorem s_un {r : V → Hp → VK → Prop} (h : ta σ H fun x H1 => r x H1 Q) : tUn r ta σ H Q := h
theorem s_I0 {g : Int → Int → V} {a b : Int} (h : Q (g a b) H) : rI0 g (.int a) (.int b) H Q := ⟨a, b, rfl, rfl, h⟩
theorem s_I {C : Int → Int → Prop} {g : Int → Int → V} {a b : Int} (c : C a b) (h : Q (g a b) H) : rI C g (.int a) (.int b) H Q := ⟨a, b, rfl, rfl, c, h⟩
theorem s_U {g : Int → V} {a : Int} (h : Q (g a) H) : rU g (.int a) H Q := ⟨a, rfl, h⟩
theorem s_ret (h : te σ H D.rt) : tRet te D σ H := h
theorem s_retN (h : D.rt .non H) : tRetN D σ H := h
theorem s_drop (h : te σ H fun _ H1 => D.nx σ H1) : tDrop te D σ H := h
theorem s_next (h : D.nx σ H) : tNext D σ H := h
theorem s_if {c : TT} (h : c σ H fun b H1 => if b = true then t D σ H1 else u D σ H1) : tIfS c t u D σ H := h
theorem s_ifE {c : TT} (h : c σ H fun b H1 => if b = true then ta σ H1 Q else tb σ H1 Q) : tIf c ta tb σ H Q := h
theorem s_test {R : Bool → Hp → Prop} (h : te σ H fun x H' => ∃ k, x = .bl k ∧ R k H') : tTest te σ H R := h
theorem s_B {R : Bool → Hp → Prop} (h : te σ H fun x H' => ∃ k, x = .bl k ∧ R k H') : tB te σ H R := h
theorem s_bl {b : Bool} {R : Bool → Prop} (h : R b) : ∃ k, V.bl b = .bl k ∧ R k := ⟨b, rfl, h⟩
theorem s_and {c d : TT} {R : Bool → Hp → Prop} (h : c σ H fun b H1 => if b = true then d σ H1 R else R false H1) : tAnd c d σ H R := h
theorem s_or {c d : TT} {R : Bool → Hp → Prop} (h : c σ H fun b H1 => if b = true then R true H1 else d σ H1 R) : tOr c d σ H R := h
theorem s_not {c : TT} {R : Bool → Hp → Prop} (h : c σ H fun b H1 => R (!b) H1) : tNot c σ H R := h
theorem s_andV (h : ta σ H fun x H1 => ∃ c, x = .bl c ∧ if c = true then tb σ H1 Q else Q (.bl false) H1) : tAndV ta tb σ H Q := h
theorem s_orV (h : ta σ H fun x H1 => ∃ c, x = .bl c ∧ if c = true then Q (.bl true) H1 else tb σ H1 Q) : tOrV ta tb σ H Q := h
theorem s_notV (h : ta σ H fun x H1 => ∃ c, x = .bl c ∧ Q (.bl (!c)) H1) : tNotV ta σ H Q := h
theorem s_nil {R : List V → Hp → Prop} (h : R [] H) : tNil σ H R := h
theorem s_cons {tr : TA} {R : List V → Hp → Prop} (h : te σ H fun x H1 => tr σ H1 fun xs H2 => R (x :: xs) H2) : tCons te tr σ H R := h
theorem s_CB {r : List V → Hp → VK → Prop} {t : TA} (h : t σ H fun vs H1 => r vs H1 Q) : tCB r t σ H Q := h
theorem s_call {sp : Sp} {E : XK} {t : TA} (h : t σ H fun vs H1 => sp (vs ++ []) H1 Q E) : tCall sp [] E t σ H Q := h
theorem s_tup {t : TA} (h : t σ H fun xs H1 => xs.length ≤ sizeLine ∧ ∀ p, H1 p = none → Q (.ref p) (upd H1 p (.tup xs))) : tTup t σ H Q := h
theorem s_lst {t : TA} (h : t σ H fun xs H1 => xs.length ≤ sizeLine ∧ ∀ p, H1 p = none → Q (.ref p) (upd H1 p (.lst xs))) : tLst t σ H Q := h
theorem s_par2 {a b : Nat} {ta : TA} (h : ta σ H fun vs H1 => ∃ v1 v2, vs = [v1, v2] ∧ D.nx ((σ.set a (some v1)).set b (some v2)) H1) : tPar2 a b ta D σ H := h
theorem s_par3 {a b c : Nat} {ta : TA} (h : ta σ H fun vs H1 => ∃ v1 v2 v3, vs = [v1, v2, v3] ∧ D.nx (((σ.set a (some v1)).set b (some v2)).set c (some v3)) H1) : tPar3 a b c ta D σ H := h
theorem s_2 {v1 v2 : V} {P : V → V → Prop} (h : P v1 v2) : ∃ a b, [v1, v2] = [a, b] ∧ P a b := ⟨_, _, rfl, h⟩
theorem s_3 {v1 v2 v3 : V} {P : V → V → V → Prop} (h : P v1 v2 v3) : ∃ a b c, [v1, v2, v3] = [a, b, c] ∧ P a b c := ⟨_, _, _, rfl, h⟩
theorem s_sub {to ti : TE} {t : TSet} {R : L2.St → Hp → Prop} (h : to σ H fun o H1 => ti σ H1 fun i H2 => t o i v H2 fun H3 => R σ H3) : gSub to ti t v σ H R := h
theorem s_dput {td ty tv : TE} (h : tv σ H fun v H1 => td σ H1 fun x H2 => ty σ H2 fun y H3 => ∃ a H4, x = .ref a ∧ DPut H3 a y v H4 ∧ D.nx σ H4) : sDPut td ty tv D σ H := h
theorem s_dget {td ty : TE} (h : td σ H fun x H1 => ty σ H1 fun y H2 => ∃ a v, x = .ref a ∧ DGet H2 a y (some v) ∧ Q v H2) : tDGet td ty σ H Q := h
theorem s_one {a : Int} {P : Int → Prop} (h : P a) : ∃ b, [V.int a] = [V.int b] ∧ P b := ⟨a, rfl, h⟩
/-- an item of a list, of a tuple, a sign of a text -/
theorem s_ixl {p : Addr} {xs : List V} {i : Int} (hs : SqL K H p xs) (ha : atI xs i = some v) (h : Q v H) : rIxL K (.ref p) (.int i) H Q := ⟨p, xs, i, v, rfl, rfl, hs, ha, h⟩
theorem s_ixt {p : Addr} {xs : List V} {i : Int} (hs : SqT K H p xs) (ha : atI xs i = some v) (h : Q v H) : rIxT K (.ref p) (.int i) H Q := ⟨p, xs, i, v, rfl, rfl, hs, ha, h⟩
theorem s_eq (hs : scal x y = true) (h : Q (.bl (decide (x = y))) H) : rEq x y H Q := ⟨hs, h⟩
theorem s_ne (hs : scal x y = true) (h : Q (.bl (!decide (x = y))) H) : rNe x y H Q := ⟨hs, h⟩
theorem ite_t {b : Bool} {A B : Prop} (e : b = true) (h : A) : if b = true then A else B := by rw [if_pos e]; exact h
theorem ite_f {b : Bool} {A B : Prop} (e : b = false) (h : B) : if b = true then A else B := by rw [e]; exact iteF h
theorem ite_b {b : Bool} {A B : Prop} (h1 : b = true → A) (h2 : b = false → B) : if b = true then A else B := by
  cases b with
  | true => exact ite_t rfl (h1 rfl)
  | false => exact ite_f rfl (h2 rfl)
theorem atI_at {xs : List V} {j : Nat} {i : Int} (e : xs[j]? = some v) (hi : i = (j : Int)) : atI xs i = some v := by subst hi; exact atI_nat e
theorem s_int1 {a : Int} {P : Int → Prop} {R : Prop} (h : P a) : (∃ i, [V.int a] = [V.int i] ∧ P i) ∨ R := .inl ⟨a, rfl, h⟩
/-- the value forgotten: a rest, a power -/
theorem s_modF {a b : Int} (hb : 0 < b) (h : ∀ r, 0 ≤ r → r < b → Q (.int r) H) : rI (fun _ j => 0 < j) (fun i j => .int (i % j)) (.int a) (.int b) H Q :=
  ⟨a, b, rfl, rfl, hb, h _ (Int.emod_nonneg _ (by omega)) (Int.emod_lt_of_pos _ hb)⟩
theorem s_powF {a b : Int} (c : CPow a b) (h : ∀ r, Q (.int r) H) : rI CPow (fun i j => .int (i ^ j.toNat)) (.int a) (.int b) H Q := ⟨a, b, rfl, rfl, c, h _⟩
/-- len of a list -/
theorem len_l {p : Addr} {xs : List V} (h : SqL K H p xs) : LenV K (.ref p) H xs.length := .inl ⟨xs, h, rfl⟩
end
theorem s_lc {wi : TI} {g : TG} {tt : TT} {te : TE} {vs : List Nat} {σ : L2.St} {H : Hp} {Q : VK} (h : wi σ H fun J H1 => ∀ D, H1 D = none → ∃ W : Nat → Nat → Hp → Prop, (∃ m, W 0 m (upd H1 D (.lst []))) ∧ ∀ i m H, W i m H →
  (J.stop i H ∧ Q (.ref D) H) ∨ (J.go i H ∧ ∃ Nx : Hp → Prop, (∀ H', Nx H' → ∃ m', m' < m ∧ W (i + 1) m' H') ∧ ∀ x H', J.yld i H x H' → g x (wipe σ vs) H' fun σ2 H2 => wipe σ2 vs = wipe σ vs ∧ tt σ2 H2 fun b H3 =>
    if b = true then te σ2 H3 fun y H4 => ∃ acc, H4 D = some (.lst acc) ∧ acc.length < sizeLine ∧ Nx (upd H4 D (.lst (acc ++ [y]))) else Nx H3)) : tLc wi g tt te vs σ H Q := h
theorem s_rng1 {ta : TA} {σ : L2.St} {H : Hp} {R : It → Hp → Prop} (h : ta σ H fun vs H1 => ∃ j : Int, vs = [.int j] ∧ -(2 ^ 62) ≤ j ∧ j < 2 ^ 62 ∧ R (Itr 0 j.toNat) H1) : iRng1 ta σ H R := h
theorem s_yes {σ : L2.St} {H : Hp} {Q : Bool → Hp → Prop} (h : Q true H) : tYes σ H Q := h
theorem s_bm {K : PySem.W.Frag} {T : String} {r : V → List V → Hp → VK → Prop} {to : TE} {ta : TA} {σ : L2.St} {H : Hp} {Q : VK} (h : to σ H fun x H1 => tyV K T x H1 ∧ ta σ H1 fun xs H2 => r x xs H2 Q) : tBM K T r to ta σ H Q := h
theorem s_bm0 {K : PySem.W.Frag} {T : String} {r : V → List V → Hp → VK → Prop} {to : TE} {σ : L2.St} {H : Hp} {Q : VK} (h : to σ H fun x H1 => tyV K T x H1 ∧ r x [] H1 Q) : tBM0 K T r to σ H Q := h
theorem perm_erase {α : Type} : ∀ {l : List α} {k : Nat} {y : α}, l[k]? = some y → (y :: l.eraseIdx k).Perm l
  | [], _, _, h => by simp at h
  | x :: r, 0, y, h => by simp at h; subst h; exact .refl _
  | x :: r, k + 1, y, h => by
    have ih := perm_erase (l := r) (k := k) (y := y) (by simpa using h)
    exact (List.Perm.swap x y _).trans (ih.cons x)
theorem Nx.sing {S : List Addr} {s : Addr} {H H' : Hp} (g : Nx [s] H H') (h : s ∈ S) : Nx S H H' := g.mono fun x hx => by
  rw [List.mem_singleton.mp hx]; exact h
/-- [e for k in range(many)], e an int of some kind, at most c draws each -/
theorem lc_ints {te : TE} {vs : List Nat} {σ : L2.St} {H : Hp} {D s : Addr} {Q : VK} {many k n : Nat} (c : Nat) (R : Int → Prop) (hw : ∀ x, wipe ((wipe σ vs).set k (some x)) vs = wipe σ vs) (nD : H D = none) (hs : Spr H s n) (hm : many ≤ 100000)
    (helt : ∀ (i : Nat) (H1 : Hp) (Q' : VK), i < many → Nx [s] H H1 → Spr H1 s (n + i * c) → (∀ (y : Int) (H2 : Hp), R y → Nx [s] H1 H2 → Spr H2 s (n + (i + 1) * c) → Q' (.int y) H2) → te ((wipe σ vs).set k (some (.int (0 + (i : Nat))))) H1 Q')
    (hq : ∀ (ys : List Int) (H' : Hp), ys.length = many → (∀ y ∈ ys, R y) → H' D = some (.lst (ys.map V.int)) → Nx [s] H H' → Spr H' s (n + many * c) → Q (.ref D) H') :
    ∃ W : Nat → Nat → Hp → Prop, (∃ m, W 0 m (upd H D (.lst []))) ∧ ∀ i m H, W i m H →
      ((Itr 0 many).stop i H ∧ Q (.ref D) H) ∨ ((Itr 0 many).go i H ∧ ∃ Nx : Hp → Prop, (∀ H', Nx H' → ∃ m', m' < m ∧ W (i + 1) m' H') ∧ ∀ x H', (Itr 0 many).yld i H x H' → gName k x (wipe σ vs) H' fun σ2 H2 => wipe σ2 vs = wipe σ vs ∧ tYes σ2 H2 fun b H3 =>
        if b = true then te σ2 H3 fun y H4 => ∃ acc, H4 D = some (.lst acc) ∧ acc.length < sizeLine ∧ Nx (upd H4 D (.lst (acc ++ [y]))) else Nx H3) := by
  have hDs : D ≠ s := fun z => hs.al (by rw [← z]; exact nD)
  refine lc_range (fun i H' => ∃ ys : List Int, ys.length = i ∧ (∀ y ∈ ys, R y) ∧ H' D = some (.lst (ys.map V.int)) ∧ Nx [s] H H' ∧ Spr H' s (n + i * c)) ⟨[], rfl, by simp, upd_same, .new nD, by simpa using hs.nx (S := []) (.new nD) (by simp)⟩ ?_ ?_
  · rintro i H1 hi ⟨ys, hl, hr, eD, g, hs1⟩
    refine ⟨hw _, s_yes ?_⟩
    rw [if_pos rfl]
    refine helt i H1 _ hi g hs1 fun y H2 ry g2 hs2 => ⟨ys.map V.int, g2.kp D _ (by simpa using hDs) eD, ?_, ys ++ [y], by simp [hl], ?_, by rw [upd_same]; simp, ?_, ?_⟩
    · rw [List.length_map]; exact Nat.lt_of_lt_of_le (show ys.length < 100000 by omega) (by decide)
    · intro z hz
      rcases List.mem_append.mp hz with hz | hz
      · exact hr z hz
      · rw [List.mem_singleton.mp hz]; exact ry
    · have ga : Nx [D, s] H1 (upd H2 D (.lst (ys.map V.int ++ [V.int y]))) := (g2.sing (by simp)).putP (by simp)
      exact ((g.sing (by simp)).trans ga).drop nD
    · exact hs2.nx (S := [D]) (.put (by simp)) (by simpa using hDs.symm)
  · rintro H1 ⟨ys, hl, hr, eD, g, hs1⟩
    exact hq ys H1 hl hr eD g hs1
end RG

/-! rules whose reading names the written part K itself (so that they stand within a comprehension's block too), rules over data -/
namespace RG
open PySem PySem.Spec PyProof.Rows L2
section
variable {X : Cx}
theorem kx_list (K : PySem.W.Frag) (hK : X.K = K := by rfl) : IxR X (rIxL K) := by subst hK; exact ix_list
theorem kx_tup (K : PySem.W.Frag) (hK : X.K = K := by rfl) : IxR X (rIxT K) := by subst hK; exact ix_tup
theorem kx_seq (K : PySem.W.Frag) (hK : X.K = K := by rfl) : IxR X (rIx K) := by subst hK; exact ix_seq
theorem ksl_list (K : PySem.W.Frag) (hK : X.K = K := by rfl) : SlR X (rSlL K) := by subst hK; exact sl_list
theorem kin_seq (K : PySem.W.Frag) (hK : X.K = K := by rfl) : OpR X (compareOp .In) (rIn K false) := by subst hK; exact op_in_seq
theorem knotIn_seq (K : PySem.W.Frag) (hK : X.K = K := by rfl) : OpR X (compareOp .NotIn) (rIn K true) := by subst hK; exact op_notIn_seq
def rListOf (K : PySem.W.Frag) : List V → Hp → VK → Prop := fun xs H Q => ∃ p ys, xs = [V.ref p] ∧ (SqL K H p ys ∨ SqT K H p ys) ∧ ∀ l, H l = none → Q (.ref l) (upd H l (.lst ys))
theorem klist_of (K : PySem.W.Frag) (hK : X.K = K := by rfl) : CallR X (.type "list") (rListOf K) := by subst hK; exact call_list_of
def rTupleOf (K : PySem.W.Frag) : List V → Hp → VK → Prop := fun xs H Q => ∃ p ys, xs = [V.ref p] ∧ ((SqL K H p ys ∧ ∀ l, H l = none → Q (.ref l) (upd H l (.tup ys))) ∨ (SqT K H p ys ∧ Q (.ref p) H))
theorem ktuple_of (K : PySem.W.Frag) (hK : X.K = K := by rfl) : CallR X (.type "tuple") (rTupleOf K) := by subst hK; exact call_tuple_of
theorem kall (K : PySem.W.Frag) (hc : X.calm = true := by rfl) (hK : X.K = K := by rfl) : CallR X (.builtin "all") (rAll K) := by subst hK; exact cr_all hc
theorem kany (K : PySem.W.Frag) (hc : X.calm = true := by rfl) (hK : X.K = K := by rfl) : CallR X (.builtin "any") (rAny K) := by subst hK; exact cr_any hc
theorem ksortedS (K : PySem.W.Frag) (hK : X.K = K := by rfl) : CallR X (.builtin "sorted") (rSortedS K) := by subst hK; exact cr_sortedS
/-- len: texts, lists, tuples, dicts -/
def LenU (K : PySem.W.Frag) (x : V) (H : Hp) (n : Nat) : Prop := LenV K x H n ∨ ∃ a kvs, x = .ref a ∧ Rd H a (.dK kvs) ∧ n = kvs.length
def rLenU (K : PySem.W.Frag) : List V → Hp → VK → Prop := fun xs H Q => ∃ x n, xs = [x] ∧ LenU K x H n ∧ Q (.int n) H
theorem klen (K : PySem.W.Frag) (hK : X.K = K := by rfl) : CallR X (.builtin "len") (rLenU K) := by
  subst hK
  intro pins s σ H xs us Q I r h
  obtain ⟨x, n, rfl, l, q⟩ := h
  rcases l with l | ⟨a, kvs, rfl, e, rfl⟩
  · exact call_len pins s σ H [x] us Q I r ⟨x, n, rfl, l, q⟩
  · obtain ⟨u, rfl, ru⟩ := vals1 r
    obtain rfl : u = Value.ref a := ru
    exact d_len I e fun t s' I' => ⟨.int kvs.length, H, I', ⟨t, rfl⟩, q⟩
/-- truth: dicts too that are read alone -/
def TruU (K : PySem.W.Frag) (x : V) (H : Hp) (k : Bool) : Prop := TruV K x H k ∨ ∃ a kvs, x = .ref a ∧ Rd H a (.dK kvs) ∧ k = !kvs.isEmpty
def tTruU (K : PySem.W.Frag) (ta : TE) : TT := fun σ H Q => ta σ H fun x H' => ∃ k, TruU K x H' k ∧ Q k H'
theorem kt_truth (K : PySem.W.Frag) {a : Expr} {ta : TE} (ha : PE X a ta) (he : ∀ whole, isTrue a X.env whole = (do let v ← whole; standAt a.pos; holding [v] (truthy v))) (hK : X.K = K := by rfl) : PT X a (tTruU K ta) := by
  subst hK
  refine ⟨fun pins s σ H Q I h => ?_⟩
  refine isTrue_plain (thn (ha.run pins s σ H _ I h) fun v s1 ⟨x, H1, I1, r1, k, t, q⟩ => ?_) (he _)
  rcases t with t | ⟨p, kvs, rfl, e, rfl⟩
  · exact tru_ok pins s1 σ H1 x v Q I1 r1 ⟨k, t, q⟩
  · obtain rfl : v = Value.ref p := r1
    obtain ⟨hz, hS, vs, r, m⟩ := dk_rd I1.hok e
    have hlen : kvs.length = vs.length := Paired.length r
    have hl := line63
    exact wpAny_truthy_dict hS m (by omega) ⟨H1, I1.tok _, by rw [isEmpty_kv r]; exact q⟩
/-- a built-in method -/
theorem kbm (K : PySem.W.Frag) {o e : Expr} {es : List Expr} {to : TE} {t : TA} {name : Str} {apos cpos : Pos} {T id : String} {r : V → List V → Hp → VK → Prop}
    (pa : PlainAttrs T) (slot : Slot T name id) (hty : typeOf (.builtin id) = pure (.type "method_descriptor")) (hm : MtR X id r) (ho : PE X o to) (ha : PA X (e :: es) t)
    (hbase : attributeBase o name X.env (eval o X.env) = eval o X.env := by rfl)
    (hfew : ((backTo cpos (starEach (e :: es) X.env)).all (fun x => !x.1) && (backToKw cpos (keywordEach [] X.env)).all (fun x => x.1.isSome) && decide ((e :: es).length + ([] : List Keyword).length + (if ([] : List Keyword).isEmpty then 0 else 1) < 30)) = true := by rfl)
    (hline : (apos.endLine == cpos.line) = true := by rfl) (hs : starEach (e :: es) X.env = (false, eval e X.env) :: starEach es X.env := by rfl) (hplain : (backTo cpos (starEach es X.env)).any (·.1) = false := by rfl)
    (hK : X.K = K := by rfl) : PE X (.Call (.Attribute o name apos) (e :: es) [] cpos) (tBM K T r to t) := by
  subst hK; exact pe_bm pa slot hty hm ho ha hbase hfew hline hs hplain
theorem kbm0 (K : PySem.W.Frag) {o : Expr} {to : TE} {name : Str} {apos cpos : Pos} {T id : String} {r : V → List V → Hp → VK → Prop}
    (pa : PlainAttrs T) (slot : Slot T name id) (hty : typeOf (.builtin id) = pure (.type "method_descriptor")) (hm : MtR X id r) (ho : PE X o to)
    (hbase : attributeBase o name X.env (eval o X.env) = eval o X.env := by rfl) (hline : (apos.endLine == cpos.line) = true := by rfl)
    (hK : X.K = K := by rfl) : PE X (.Call (.Attribute o name apos) [] [] cpos) (tBM0 K T r to) := by
  subst hK; exact pe_bm0 pa slot hty hm ho hbase hline
theorem kgtup (K : PySem.W.Frag) {es : List Expr} {k : Nat} {t : TGs} {n : Nat} {pos : Pos} (hc : X.calm = true) (h : PGs X es t) (hn : (assignEach es X.env).length = n := by rfl) (hst : (assignEach es X.env).findIdx? (·.1) = none := by rfl)
    (hK : X.K = K := by rfl) : PG X (.Tuple es k pos) (gTup K n t) := by
  subst hK; exact pg_tup hc h hn hst
variable {tg : Expr}
theorem ki_list (K : PySem.W.Frag) {l : Expr} {tl : TE} (hl : PE X l tl) (hK : X.K = K := by rfl) : PI X tg l (iList K tl) := by subst hK; exact pi_list hl
theorem ki_tup (K : PySem.W.Frag) {l : Expr} {tl : TE} (hl : PE X l tl) (hK : X.K = K := by rfl) : PI X tg l (iTup K tl) := by subst hK; exact pi_tup hl

theorem ki_enum (K : PySem.W.Frag) {e : Expr} {ta : TA} {p pos tpos : Pos} {elts : List Expr} {kk : Nat} (hg : Gl X "enumerate") (hm : X.mg "enumerate" = none) (ha : PA X [e] ta) (hs : starEach [e] X.env = [(false, eval e X.env)] := by rfl) (hK : X.K = K := by rfl) :
    PI X (.Tuple elts kk tpos) (.Call (.Name "enumerate" p) [e] [] pos) (iEnum K ta) := by subst hK; exact pi_enum hg hm ha hs

theorem ki_zip (K : PySem.W.Frag) {e e2 : Expr} {ta : TA} {p pos tpos : Pos} {elts : List Expr} {kk : Nat} (hg : Gl X "zip") (hm : X.mg "zip" = none) (ha : PA X [e, e2] ta)
    (hs : starEach [e, e2] X.env = (false, eval e X.env) :: starEach [e2] X.env := by rfl) (hpl : (backTo pos (starEach [e2] X.env)).any (·.1) = false := by rfl) (hK : X.K = K := by rfl) :
    PI X (.Tuple elts kk tpos) (.Call (.Name "zip" p) [e, e2] [] pos) (iZip K ta) := by subst hK; exact pi_zip hg hm ha hs hpl

/-! ### data -/
/-- the class of a datum -/
def tyD : PyData → String
  | .none => "NoneType"
  | .bool _ => "bool"
  | .int _ => "int"
  | .str _ => "str"
  | .list _ => "list"
  | .tuple _ => "tuple"
  | .dict _ => "dict"
/-- whether it is an instance of a built-in class -/
def subT (a T : String) : Bool := a == T || (a == "bool" && T == "int")
def isT (d : PyData) (T : String) : Bool := subT (tyD d) T
def seven : List String := ["NoneType", "bool", "int", "str", "list", "tuple", "dict"]
theorem tyD_seven (d : PyData) : tyD d ∈ seven := by cases d <;> simp [tyD, seven]
theorem ty_im {K : PySem.W.Frag} {S : List Addr} {H : Hp} {v : V} {d : PyData} (h : Im S H v d) : TyX K H v (.type (tyD d)) := by
  cases h with
  | non => exact .base .non
  | bl b => exact .base (.bl b)
  | int i => exact .base (.int i)
  | str x => exact .base (.str x)
  | lst n r a =>
    rcases r with r | ⟨o, r⟩
    · exact .base (.lst r)
    · exact .base (.frz r)
  | tup n r a =>
    rcases r with r | ⟨o, r⟩
    · exact .base (.tup r)
    · exact .fTuple r
  | dct n r nd a =>
    rcases r with r | ⟨o, r⟩
    · exact .base (.dK r)
    · exact .fDict r
/-- the six classes that are asked for -/
def six : List String := ["bool", "int", "str", "list", "tuple", "dict"]
theorem kit_all : ∀ a ∈ seven, ∀ T ∈ six, kitB a T = some (subT a T) := by decide +kernel
theorem kit_d {K : PySem.W.Frag} (d : PyData) {T : String} (hT : T ∈ six) : PySem.W.kitOne K (.type (tyD d)) (.type T) = some (isT d T) := kit_ty (kit_all _ (tyD_seven d) T hT)
/-- isinstance(x, T) -/
def rIsD : List V → Hp → VK → Prop := fun xs H Q => ∃ (x : V) (T : String) (S : List Addr) (d : PyData), xs = [x, .ty T] ∧ T ∈ six ∧ Im S H x d ∧ Q (.bl (isT d T)) H
theorem kisD : CallR X (.builtin "isinstance") rIsD := by
  intro pins s σ H xs us Q I r h
  obtain ⟨x, T, S, d, rfl, hT, i, q⟩ := h
  exact call_isi pins s σ H _ us Q I r ⟨x, .ty T, _, _, _, rfl, .ty T, ty_im i, kit_d d hT, q⟩
/-- isinstance(x, (T1, T2, ..)) -/
def rIsDT : List V → Hp → VK → Prop := fun xs H Q => ∃ (x : V) (tp : Addr) (Ts : List String) (S : List Addr) (d : PyData), xs = [x, .ref tp] ∧ H tp = some (.tup (Ts.map V.ty)) ∧ (∀ T ∈ Ts, T ∈ six) ∧ Im S H x d ∧ Q (.bl (Ts.any (isT d))) H
theorem kit_ds {K : PySem.W.Frag} (d : PyData) : ∀ {Ts : List String}, (∀ T ∈ Ts, T ∈ six) → PySem.W.kitAny K (.type (tyD d)) (Ts.map Value.type) = some (Ts.any (isT d))
  | [], _ => rfl
  | T :: r, h => by
    have h1 := kit_d (K := K) d (h T List.mem_cons_self)
    have h2 := kit_ds (K := K) d (Ts := r) fun a ha => h a (List.mem_cons_of_mem _ ha)
    simp only [List.map_cons, PySem.W.kitAny, List.any_cons, h1, h2]
    cases isT d T <;> simp
theorem cls_tys : ∀ Ts : List String, Paired ClsV (Ts.map V.ty) (Ts.map Value.type)
  | [] => .nil
  | T :: r => .cons (.ty T) (cls_tys r)
theorem kisDT : CallR X (.builtin "isinstance") rIsDT := by
  intro pins s σ H xs us Q I r h
  obtain ⟨x, tp, Ts, S, d, rfl, hT, h6, i, q⟩ := h
  exact call_isiT pins s σ H _ us Q I r ⟨x, tp, _, _, _, _, rfl, hT, cls_tys Ts, ty_im i, kit_ds d h6, q⟩
theorem s_isD {S : List Addr} {H : Hp} {Q : VK} {x : V} {T : String} {d : PyData} (i : Im S H x d) (hT : T ∈ six) (h : Q (.bl (isT d T)) H) : rIsD [x, .ty T] H Q := ⟨x, T, S, d, rfl, hT, i, h⟩
end
end RG

/-! loops and comprehensions over whatever is walked a known number of turns -/
namespace RG
open PySem PySem.Spec PyProof.Rows L2
/-- n turns while G stands; Y: what a turn draws -/
structure Runs (J : It) (n : Nat) (G : Hp → Prop) (Y : Nat → Hp → V → Hp → Prop) : Prop where
  go : ∀ i H, G H → i < n → J.go i H
  stop : ∀ i H, G H → n ≤ i → J.stop i H
  yl : ∀ i H x H', G H → i < n → J.yld i H x H' → Y i H x H'
theorem runs_range {lo : Int} {n : Nat} : Runs (Itr lo n) n (fun _ => True) (fun i H x H' => H' = H ∧ x = .int (lo + i)) := ⟨fun _ _ _ h => h, fun _ _ _ h => h, fun _ _ _ _ _ _ h => h⟩
theorem runs_list {K : PySem.W.Frag} {a : Addr} {xs : List V} : Runs (Itl K a) xs.length (fun H => SqL K H a xs) (fun i H x H' => H' = H ∧ xs[i]? = some x) :=
  ⟨fun i H h hi => ⟨xs, xs[i], h, List.getElem?_eq_getElem hi⟩, fun i H h hi => ⟨xs, h, hi⟩, fun i H x H' h hi ⟨e, y⟩ => ⟨e, y xs h⟩⟩
theorem runs_enum {K : PySem.W.Frag} {a : Addr} {xs : List V} : Runs (Ite K a) xs.length (fun H => SqL K H a xs) (fun i H v H' => ∃ T x, v = .ref T ∧ H T = none ∧ H' = upd H T (.tup [.int (i : Nat), x]) ∧ xs[i]? = some x) :=
  ⟨fun i H h hi => ⟨xs, xs[i], h, List.getElem?_eq_getElem hi⟩, fun i H h hi => ⟨xs, h, hi⟩, fun i H x H' h hi ⟨T, x, a, b, c, d⟩ => ⟨T, x, a, b, c, d xs h⟩⟩
theorem runs_keys {d : Addr} {o : Obj} {kvs : List (Key × V)} : Runs (Itk d o kvs) kvs.length (fun H => H d = some (.frz o (.dK kvs))) (fun i H x H' => H' = H ∧ ∃ k v, kvs[i]? = some (k, v) ∧ x = kV k) :=
  ⟨fun i H h hi => ⟨h, hi⟩, fun i H h hi => ⟨h, hi⟩, fun i H x H' h hi y => y⟩
theorem runs_items {d : Addr} {o : Obj} {kvs : List (Key × V)} : Runs (Iti d o kvs) kvs.length (fun H => H d = some (.frz o (.dK kvs))) (fun i H x H' => ∃ T k v, kvs[i]? = some (k, v) ∧ x = .ref T ∧ H T = none ∧ H' = upd H T (.tup [kV k, v])) :=
  ⟨fun i H h hi => ⟨h, hi⟩, fun i H h hi => ⟨h, hi⟩, fun i H x H' h hi y => y⟩
theorem runs_vals {d : Addr} {o : Obj} {kvs : List (Key × V)} : Runs (Itd d o kvs) kvs.length (fun H => H d = some (.frz o (.dK kvs))) (fun i H x H' => H' = H ∧ ∃ k, kvs[i]? = some (k, x)) :=
  ⟨fun i H h hi => ⟨h, hi⟩, fun i H h hi => ⟨h, hi⟩, fun i H x H' h hi y => y⟩
theorem runs_str {x : Str} : Runs (Its x) x.cps.size (fun _ => True) (fun i H v H' => H' = H ∧ ∃ c, x.cps[i]? = some c ∧ v = .str ⟨#[c]⟩) := ⟨fun _ _ _ h => h, fun _ _ _ h => h, fun _ _ _ _ _ _ h => h⟩
theorem runs_zip {K : PySem.W.Frag} {a b : Addr} {xs ys : List V} (hl : xs.length = ys.length) : Runs (Itz K a b) xs.length (fun H => SqL K H a xs ∧ SqL K H b ys)
    (fun i H v H' => ∃ T x y, v = .ref T ∧ H T = none ∧ H' = upd H T (.tup [x, y]) ∧ xs[i]? = some x ∧ ys[i]? = some y) :=
  ⟨fun i H h hi => ⟨xs, ys, xs[i], ys[i], h.1, h.2, List.getElem?_eq_getElem hi, List.getElem?_eq_getElem (by omega)⟩, fun i H h hi => ⟨xs, ys, h.1, h.2, .inl hi⟩,
    fun i H x H' h hi ⟨T, x, y, a, b, c, d, e⟩ => ⟨T, x, y, a, b, c, d xs h.1, e ys h.2⟩⟩

section
variable {J : It} {n : Nat} {G : Hp → Prop} {Y : Nat → Hp → V → Hp → Prop} {g : TG}
theorem for_runs {tb : TS} {nx : L2.St → Hp → Prop} {rt : VK} {σ : L2.St} {H : Hp} (r : Runs J n G Y) (Pv : Nat → L2.St → Hp → Prop) (h0 : Pv 0 σ H) (hG : ∀ i σ H, Pv i σ H → G H)
    (hs : ∀ i σ H x H', i < n → Pv i σ H → Y i H x H' → g x σ H' fun σ2 H2 => tb { nx := Pv (i + 1), rt := rt, bk := nx, ct := Pv (i + 1) } σ2 H2) (hd : ∀ σ H, Pv n σ H → nx σ H) :
    ∃ W : Nat → Nat → L2.St → Hp → Prop, (∃ m, W 0 m σ H) ∧ ∀ i m σ H, W i m σ H →
      (J.stop i H ∧ nx σ H) ∨ (J.go i H ∧ ∃ N : L2.St → Hp → Prop, (∀ σ' H', N σ' H' → ∃ m', m' < m ∧ W (i + 1) m' σ' H') ∧ ∀ x H', J.yld i H x H' → g x σ H' fun σ2 H2 => tb { nx := N, rt := rt, bk := nx, ct := N } σ2 H2) := by
  refine ⟨fun i m σ H => m = n - i ∧ i ≤ n ∧ Pv i σ H, ⟨n, by simp, Nat.zero_le _, h0⟩, ?_⟩
  rintro i m σ H ⟨rfl, hi, p⟩
  have q := hG i σ H p
  by_cases hlt : i < n
  · exact .inr ⟨r.go i H q hlt, Pv (i + 1), fun σ' H' p' => ⟨n - (i + 1), by omega, rfl, hlt, p'⟩, fun x H' y => hs i σ H x H' hlt p (r.yl i H x H' q hlt y)⟩
  · have e : i = n := by omega
    subst e
    exact .inl ⟨r.stop i H q (Nat.le_refl _), hd σ H p⟩
theorem lc_runs {tt : TT} {te : TE} {vs : List Nat} {σ : L2.St} {H1 : Hp} {D : Addr} {Qd : Hp → Prop} (r : Runs J n G Y) (Pv : Nat → Hp → Prop) (h0 : Pv 0 (upd H1 D (.lst []))) (hG : ∀ i H, Pv i H → G H)
    (hs : ∀ i H x H', i < n → Pv i H → Y i H x H' → g x (wipe σ vs) H' fun σ2 H2 => wipe σ2 vs = wipe σ vs ∧ tt σ2 H2 fun b H3 =>
      if b = true then te σ2 H3 fun y H4 => ∃ acc, H4 D = some (.lst acc) ∧ acc.length < sizeLine ∧ Pv (i + 1) (upd H4 D (.lst (acc ++ [y]))) else Pv (i + 1) H3) (hd : ∀ H, Pv n H → Qd H) :
    ∃ W : Nat → Nat → Hp → Prop, (∃ m, W 0 m (upd H1 D (.lst []))) ∧ ∀ i m H, W i m H →
      (J.stop i H ∧ Qd H) ∨ (J.go i H ∧ ∃ Nx : Hp → Prop, (∀ H', Nx H' → ∃ m', m' < m ∧ W (i + 1) m' H') ∧ ∀ x H', J.yld i H x H' → g x (wipe σ vs) H' fun σ2 H2 => wipe σ2 vs = wipe σ vs ∧ tt σ2 H2 fun b H3 =>
        if b = true then te σ2 H3 fun y H4 => ∃ acc, H4 D = some (.lst acc) ∧ acc.length < sizeLine ∧ Nx (upd H4 D (.lst (acc ++ [y]))) else Nx H3) := by
  refine ⟨fun i m H => m = n - i ∧ i ≤ n ∧ Pv i H, ⟨n, by simp, Nat.zero_le _, h0⟩, ?_⟩
  rintro i m H ⟨rfl, hi, p⟩
  have q := hG i H p
  by_cases hlt : i < n
  · exact .inr ⟨r.go i H q hlt, Pv (i + 1), fun H' p' => ⟨n - (i + 1), by omega, rfl, hlt, p'⟩, fun x H' y => hs i H x H' hlt p (r.yl i H x H' q hlt y)⟩
  · have e : i = n := by omega
    subst e
    exact .inl ⟨r.stop i H q (Nat.le_refl _), hd H p⟩
end
section
variable {σ : L2.St} {H : Hp} {Q : VK} {v : V} {K : PySem.W.Frag}
theorem s_for {wi : TI} {g : TG} {tb : TS} {D : Ends} (h : wi σ H fun J H1 => ∃ W : Nat → Nat → L2.St → Hp → Prop, (∃ m, W 0 m σ H1) ∧ ∀ i m σ H, W i m σ H →
  (J.stop i H ∧ D.nx σ H) ∨ (J.go i H ∧ ∃ N : L2.St → Hp → Prop, (∀ σ' H', N σ' H' → ∃ m', m' < m ∧ W (i + 1) m' σ' H') ∧ ∀ x H', J.yld i H x H' → g x σ H' fun σ2 H2 => tb { D with nx := N, ct := N, bk := D.nx } σ2 H2)) : tFor wi g tb D σ H := h
theorem s_sl {r : V → Option Int → Option Int → Hp → VK → Prop} {te : TE} {tl th : TO} (h : te σ H fun x H1 => tl σ H1 fun l H2 => th σ H2 fun u H3 => r x l u H3 Q) : tSl r te tl th σ H Q := h
theorem s_nopart {R : Option Int → Hp → Prop} (h : R none H) : tNoPart σ H R := h
theorem s_part {te : TE} {R : Option Int → Hp → Prop} (h : te σ H fun x H1 => ∃ i, x = .int i ∧ R (some i) H1) : tPart te σ H R := h
theorem s_int {a : Int} {P : Int → Prop} (h : P a) : ∃ b, V.int a = V.int b ∧ P b := ⟨a, rfl, h⟩
theorem s_2i {a b : Int} {P : Int → Int → Prop} (h : P a b) : ∃ c d, [V.int a, V.int b] = [V.int c, V.int d] ∧ P c d := ⟨a, b, rfl, h⟩
theorem s_gtupN {n : Nat} {t : TGs} {p : Addr} {xs : List V} {R : L2.St → Hp → Prop} (hn : xs.length = n) (h : t xs σ (upd H p (.tup xs)) R) : gTup K n t (.ref p) σ (upd H p (.tup xs)) R := ⟨p, xs, rfl, .of upd_same, hn, h⟩
theorem s_gcons {t : TG} {u : TGs} {r : List V} {R : L2.St → Hp → Prop} (h : t v σ H fun σ' H' => u r σ' H' R) : gCons t u (v :: r) σ H R := ⟨v, r, rfl, h⟩
theorem s_gnil {R : L2.St → Hp → Prop} (h : R σ H) : gNil [] σ H R := ⟨rfl, h⟩
theorem s_new {xs : List V} {P : Prop} (hl : Nat.ble xs.length 64 = true) (h : P) : xs.length ≤ sizeLine ∧ P := ⟨Nat.le_trans (Nat.le_of_ble_eq_true hl) (by decide), h⟩
theorem s_ilist {tl : TE} {R : It → Hp → Prop} (h : tl σ H fun x H1 => ∃ a, x = .ref a ∧ (∃ xs, SqL K H1 a xs) ∧ R (Itl K a) H1) : iList K tl σ H R := h
theorem s_ienum {ta : TA} {R : It → Hp → Prop} (h : ta σ H fun vs H1 => ∃ a xs, vs = [.ref a] ∧ SqL K H1 a xs ∧ R (Ite K a) H1) : iEnum K ta σ H R := h
theorem s_izip {ta : TA} {R : It → Hp → Prop} (h : ta σ H fun vs H1 => ∃ a b xs ys, vs = [.ref a, .ref b] ∧ SqL K H1 a xs ∧ SqL K H1 b ys ∧ R (Itz K a b) H1) : iZip K ta σ H R := h
theorem s_istr {te : TE} {R : It → Hp → Prop} (h : te σ H fun v H1 => ∃ x, v = .str x ∧ R (Its x) H1) : iStr te σ H R := h
theorem s_ikeys {td : TE} {R : It → Hp → Prop} (h : td σ H fun x H1 => ∃ d o, x = .ref d ∧ ((∃ kvs, H1 d = some (.frz o (.dK kvs)) ∧ R (Itk d o kvs) H1) ∨ ∃ kvs, H1 d = some (.frz o (.dT kvs)) ∧ R (Itkt d o kvs) H1)) : iKeys td σ H R := h
theorem s_iitems {td : TE} {R : It → Hp → Prop} (h : td σ H fun x H1 => ∃ d o kvs, x = .ref d ∧ H1 d = some (.frz o (.dK kvs)) ∧ R (Iti d o kvs) H1) : iItems td σ H R := h
theorem s_ivals {td : TE} {R : It → Hp → Prop} (h : td σ H fun x H1 => ∃ d o kvs, x = .ref d ∧ H1 d = some (.frz o (.dK kvs)) ∧ R (Itd d o kvs) H1) : iVals td σ H R := h
theorem s_eqI {a b : Int} (h : Q (.bl (decide (a = b))) H) : rEq (.int a) (.int b) H Q := ⟨rfl, by
  rw [show decide (V.int a = V.int b) = decide (a = b) from by simp]; exact h⟩
theorem s_neI {a b : Int} (h : Q (.bl (!decide (a = b))) H) : rNe (.int a) (.int b) H Q := ⟨rfl, by
  rw [show decide (V.int a = V.int b) = decide (a = b) from by simp]; exact h⟩
theorem s_eqS {a b : Str} (h : Q (.bl (decide (a = b))) H) : rEq (.str a) (.str b) H Q := ⟨rfl, by
  rw [show decide (V.str a = V.str b) = decide (a = b) from by simp]; exact h⟩
theorem s_neS {a b : Str} (h : Q (.bl (!decide (a = b))) H) : rNe (.str a) (.str b) H Q := ⟨rfl, by
  rw [show decide (V.str a = V.str b) = decide (a = b) from by simp]; exact h⟩
theorem s_eqB {a b : Bool} (h : Q (.bl (decide (a = b))) H) : rEq (.bl a) (.bl b) H Q := ⟨rfl, by
  rw [show decide (V.bl a = V.bl b) = decide (a = b) from by simp]; exact h⟩
theorem s_neB {a b : Bool} (h : Q (.bl (!decide (a = b))) H) : rNe (.bl a) (.bl b) H Q := ⟨rfl, by
  rw [show decide (V.bl a = V.bl b) = decide (a = b) from by simp]; exact h⟩
theorem ite_d {p : Prop} [Decidable p] {A B : Prop} (h1 : p → A) (h2 : ¬ p → B) : if decide p = true then A else B := ite_b (fun e => h1 (of_decide_eq_true e)) (fun e => h2 (of_decide_eq_false e))
theorem ite_n {p : Prop} [Decidable p] {A B : Prop} (h1 : ¬ p → A) (h2 : p → B) : if (!decide p) = true then A else B := ite_b (fun e => h1 (by simpa using e)) (fun e => h2 (by simpa using e))
theorem s_while {c : TT} {tb : TS} {D : Ends} (h : ∃ W : Nat → L2.St → Hp → Prop, (∃ m, W m σ H) ∧ ∀ m σ H, W m σ H →
  c σ H fun b H1 => if b = true then ∃ N : L2.St → Hp → Prop, (∀ σ' H', N σ' H' → ∃ m', m' < m ∧ W m' σ' H') ∧ tb { D with nx := N, ct := N, bk := D.nx } σ H1 else D.nx σ H1) : tWhile c tb D σ H := h
theorem s_truU {ta : TE} {R : Bool → Hp → Prop} (h : ta σ H fun x H' => ∃ k, TruU K x H' k ∧ R k H') : tTruU K ta σ H R := h
theorem inV_str (x : Str) : ∀ xs : List Str, inV (.str x) (xs.map V.str) = decide (x ∈ xs)
  | [] => by simp [inV]
  | y :: r => by
    have ih := inV_str x r
    unfold inV at ih ⊢
    rw [List.map_cons, List.any_cons, ih]
    show ((y == x) || decide (x ∈ r)) = decide (x ∈ y :: r)
    by_cases e : y = x
    · subst e; simp
    · have : (y == x) = false := by simpa using e
      rw [this, Bool.false_or]
      have : ¬ x = y := fun z => e z.symm
      simp [this]
theorem flat_strs (xs : List Str) : (xs.map V.str).all flatV = true := by
  rw [List.all_eq_true]
  intro x hx
  obtain ⟨y, _, rfl⟩ := List.mem_map.mp hx
  rfl
/-- two ways meet: C is found by the first that goes on -/
theorem join2 {α β : Type} {G : Prop} (P C : α → β → Prop) (h1 : (∀ a b, P a b → C a b) → G) (h2 : ∀ a b, P a b → C a b) : G := h1 h2
theorem join1 {α : Type} {G : Prop} (P C : α → Prop) (h1 : (∀ a, P a → C a) → G) (h2 : ∀ a, P a → C a) : G := h1 h2
theorem ite_eqs {α : Type} {a : α} [Decidable (a = a)] {A B : Prop} (h : A) : if decide (a = a) = true then A else B := ite_t (decide_eq_true rfl) h
theorem ite_nes {α : Type} {a : α} [Decidable (a = a)] {A B : Prop} (h : B) : if (!decide (a = a)) = true then A else B := ite_f (by rw [decide_eq_true rfl]; rfl) h
theorem ite_nt {A B : Prop} (h : B) : if (!true) = true then A else B := ite_f rfl h
theorem ite_nf {A B : Prop} (h : A) : if (!false) = true then A else B := ite_t rfl h
theorem ite_tt {A B : Prop} (h : A) : if true = true then A else B := iteT h
theorem ite_ff {A B : Prop} (h : B) : if false = true then A else B := iteF h
end
end RG

/-! names: one to eight signs -/
namespace RG
open PySem PySem.Spec PyProof.Rows L2
def letS : Str := "abcdefghijklmnopqrstuvwxyz"
def sigS : Str := "abcdefghijklmnopqrstuvwxyz0123456789"
def letC : List Nat := [97, 98, 99, 100, 101, 102, 103, 104, 105, 106, 107, 108, 109, 110, 111, 112, 113, 114, 115, 116, 117, 118, 119, 120, 121, 122]
def sigC : List Nat := [97, 98, 99, 100, 101, 102, 103, 104, 105, 106, 107, 108, 109, 110, 111, 112, 113, 114, 115, 116, 117, 118, 119, 120, 121, 122, 48, 49, 50, 51, 52, 53, 54, 55, 56, 57]
theorem letS_codes : letS.cps.toList = letC := by decide +kernel
theorem sigS_codes : sigS.cps.toList = sigC := by decide +kernel
theorem let_sig : ∀ c ∈ letC, c ∈ sigC := by decide
structure NameOk (x : Str) : Prop where
  lo : 1 ≤ x.length
  hi : x.length ≤ 8
  first : ∃ c, x.cps.toList[0]? = some c ∧ c ∈ letC
  all : ∀ c ∈ x.cps.toList, c ∈ sigC
theorem str_app (x y : Str) : (x ++ y).cps.toList = x.cps.toList ++ y.cps.toList := by
  show (x.cps ++ y.cps).toList = _
  simp
theorem str_len (x : Str) : x.length = x.cps.toList.length := by simp [Str.length]
theorem str_ext {x y : Str} (h : x.cps.toList = y.cps.toList) : x = y := by
  obtain ⟨⟨a⟩⟩ := x
  obtain ⟨⟨b⟩⟩ := y
  have e : a = b := h
  rw [e]
theorem one_len (c : Nat) : (⟨#[c]⟩ : Str).length = 1 := rfl
/-- a sign behind a name's first signs -/
theorem NameOk.app {x : Str} {c : Nat} (h : NameOk x) (hl : x.length ≤ 7) (hc : c ∈ sigC) : NameOk (x ++ ⟨#[c]⟩) := by
  obtain ⟨f, e, hf⟩ := h.first
  refine ⟨?_, ?_, ⟨f, ?_, hf⟩, ?_⟩
  · rw [StrLaws_len]; have := h.lo; omega
  · rw [StrLaws_len]; omega
  · rw [str_app, List.getElem?_append_left (by have := h.lo; rw [str_len] at this; omega)]; exact e
  · intro d hd
    rw [str_app] at hd
    rcases List.mem_append.mp hd with hd | hd
    · exact h.all d hd
    · have : d = c := by simpa using hd
      rw [this]; exact hc
where StrLaws_len : (x ++ (⟨#[c]⟩ : Str)).length = x.length + 1 := by rw [str_len, str_app, List.length_append, ← str_len]; rfl
theorem NameOk.one {c : Nat} (hc : c ∈ letC) : NameOk ⟨#[c]⟩ := ⟨by rw [one_len]; omega, by rw [one_len]; omega, ⟨c, rfl, hc⟩, fun d hd => by
  have : d = c := by simpa using hd
  rw [this]; exact let_sig c hc⟩
theorem atA {α : Type} {xs : List α} {v : α} {j : Nat} {i : Int} (e : xs[j]? = some v) (hi : i = (j : Int)) : atI xs i = some v := by subst hi; exact atI_nat e
/-- the sign at a drawn place -/
theorem sig_at {d : Int} (h0 : 0 ≤ d) (h1 : d < 36) : ∃ c, atI sigS.cps.toList d = some c ∧ c ∈ sigC := by
  have hd : d.toNat < sigC.length := by show d.toNat < 36; omega
  exact ⟨sigC[d.toNat], by rw [sigS_codes]; exact atA (j := d.toNat) (List.getElem?_eq_getElem hd) (by omega), List.getElem_mem hd⟩
theorem sig_let {d : Int} (h0 : 0 ≤ d) (h1 : d < 26) : ∃ c, atI sigS.cps.toList d = some c ∧ c ∈ letC := by
  have hd : d.toNat < letC.length := by show d.toNat < 26; omega
  have e : sigC[d.toNat]? = some letC[d.toNat] := by
    rw [show sigC = letC ++ [48, 49, 50, 51, 52, 53, 54, 55, 56, 57] from rfl, List.getElem?_append_left hd, List.getElem?_eq_getElem hd]
  exact ⟨letC[d.toNat], by rw [sigS_codes]; exact atA (j := d.toNat) e (by omega), List.getElem_mem hd⟩
theorem let_at {d : Int} (h0 : 0 ≤ d) (h1 : d < 26) : atI letS.cps.toList d = some (letC.getD d.toNat 0) ∧ letC.getD d.toNat 0 ∈ letC := by
  have hd : d.toNat < letC.length := by show d.toNat < 26; omega
  have e : letC.getD d.toNat 0 = letC[d.toNat] := by rw [List.getD_eq_getElem?_getD, List.getElem?_eq_getElem hd]; rfl
  rw [e, letS_codes]
  exact ⟨atA (j := d.toNat) (List.getElem?_eq_getElem hd) (by omega), List.getElem_mem hd⟩
/-! ### the names tried, one behind the other -/
def numS (m : Nat) : Str := Str.ofString (toString (m : Int))
def cand (k j : Nat) : Str := ⟨#[letC.getD (j % 26) 0]⟩ ++ numS (j / 26 + k)
theorem digs : ∀ m < 400, 1 ≤ ((Nat.toDigits 10 m).map Char.toNat).length ∧ ((Nat.toDigits 10 m).map Char.toNat).length ≤ 3 ∧ ∀ c ∈ (Nat.toDigits 10 m).map Char.toNat, c ∈ sigC := by decide +kernel
theorem numS_codes (m : Nat) : (numS m).cps.toList = (Nat.toDigits 10 m).map Char.toNat := PySem.W.KIN.signs_num m
theorem numS_inj {a b : Nat} (ha : a < 1000) (hb : b < 1000) (h : numS a = numS b) : a = b := by
  have h1 := PySem.W.KIN.num_reads (n := (a : Int)) (by omega) (by omega)
  have h2 := PySem.W.KIN.num_reads (n := (b : Int)) (by omega) (by omega)
  have h' : Str.ofString (toString (a : Int)) = Str.ofString (toString (b : Int)) := h
  rw [h', h2] at h1
  have := Option.some.inj h1
  omega
theorem letC_inj : ∀ a < 26, ∀ b < 26, letC.getD a 0 = letC.getD b 0 → a = b := by decide +kernel
theorem letC_mem : ∀ a < 26, letC.getD a 0 ∈ letC := by decide +kernel
theorem cand_codes (k j : Nat) : (cand k j).cps.toList = letC.getD (j % 26) 0 :: (numS (j / 26 + k)).cps.toList := by
  unfold cand
  rw [str_app]; rfl
theorem cand_ok {k j : Nat} (hk : k ≤ 100) (hj : j ≤ 100) : NameOk (cand k j) := by
  obtain ⟨a, b, c⟩ := digs (j / 26 + k) (by omega)
  have hl : (cand k j).length = ((Nat.toDigits 10 (j / 26 + k)).map Char.toNat).length + 1 := by rw [str_len, cand_codes, List.length_cons, numS_codes]
  refine ⟨by omega, by omega, ⟨letC.getD (j % 26) 0, by rw [cand_codes]; rfl, letC_mem _ (Nat.mod_lt _ (by decide))⟩, fun d hd => ?_⟩
  rw [cand_codes, numS_codes] at hd
  rcases List.mem_cons.mp hd with e | hd
  · rw [e]; exact let_sig _ (letC_mem _ (Nat.mod_lt _ (by decide)))
  · exact c d hd
theorem cand_inj {k i j : Nat} (hk : k ≤ 100) (hi : i ≤ 100) (hj : j ≤ 100) (h : cand k i = cand k j) : i = j := by
  have e : (cand k i).cps.toList = (cand k j).cps.toList := by rw [h]
  rw [cand_codes, cand_codes] at e
  injection e with e1 e2
  have m1 := letC_inj _ (Nat.mod_lt i (by decide)) _ (Nat.mod_lt j (by decide)) e1
  have m2 := numS_inj (by omega) (by omega) (str_ext e2)
  omega
/-- among a list's fewer names one that was tried is missing -/
theorem cand_few {k n : Nat} (hk : k ≤ 100) (hn : n ≤ 100) {l : List Str} (h : ∀ j < n, cand k j ∈ l) : n ≤ l.length := by
  have nd : ((List.range n).map (cand k)).Nodup := by
    rw [List.nodup_iff_pairwise_ne, List.pairwise_map]
    refine List.Pairwise.imp_of_mem ?_ (List.nodup_iff_pairwise_ne.mp List.nodup_range)
    intro a b ha hb hab e
    have h1 := List.mem_range.mp ha
    have h2 := List.mem_range.mp hb
    exact hab (cand_inj hk (by omega) (by omega) e)
  have sub : ∀ x ∈ (List.range n).map (cand k), x ∈ l := by
    intro x hx
    obtain ⟨j, hj, rfl⟩ := List.mem_map.mp hx
    exact h j (List.mem_range.mp hj)
  have := nodup_le nd sub
  simpa using this
where nodup_le {α : Type} [DecidableEq α] : ∀ {a b : List α}, a.Nodup → (∀ x ∈ a, x ∈ b) → a.length ≤ b.length
  | [], _, _, _ => by simp
  | x :: r, b, nd, h => by
    have hx := h x List.mem_cons_self
    obtain ⟨hn, nd'⟩ := List.nodup_cons.mp nd
    have ih := nodup_le (a := r) (b := b.erase x) nd' fun y hy => (List.mem_erase_of_ne (fun z => hn (by rw [← z]; exact hy))).mpr (h y (List.mem_cons_of_mem _ hy))
    rw [List.length_erase_of_mem hx] at ih
    have : 0 < b.length := List.length_pos_of_mem hx
    rw [List.length_cons]; omega
end RG

/-! arcs as data -/
namespace RG
open PySem PySem.Spec PyProof.Rows L2
abbrev Arcs := List (Str × Int × Int)
def arcD (a : Int × Int) : PyData := .tuple [.int a.1, .int a.2]
def kvsD (A : Arcs) : List (PyData × PyData) := A.map fun a => (.str a.1, arcD a.2)
def arcsD (A : Arcs) : PyData := .dict (kvsD A)
structure ArcsOk (h : Int) (A : Arcs) : Prop where
  names : ∀ a ∈ A, NameOk a.1
  nd : (A.map (·.1)).Nodup
  st : ∀ a ∈ A, 0 ≤ a.2.1 ∧ a.2.1 < h
  ln : ∀ a ∈ A, 1 ≤ a.2.2 ∧ a.2.2 ≤ h
/-- a pair of ints -/
theorem Im.pair {S : List Addr} {H : Hp} {p : Addr} {x y : Int} (hs : p ∉ S) (e : H p = some (.tup [.int x, .int y])) : Im S H (.ref p) (arcD (x, y)) :=
  .tup hs (.inl e) (.cons (.int x) (.cons (.int y) .nil))
theorem Im.pair_inv {S : List Addr} {H : Hp} {v : V} {a : Int × Int} (h : Im S H v (arcD a)) : ∃ p, v = .ref p ∧ p ∉ S ∧ Rd H p (.tup [.int a.1, .int a.2]) := by
  cases h with
  | @tup p xs ds n r al =>
    cases al with
    | cons h1 t =>
      cases t with
      | cons h2 t2 =>
        cases t2
        cases h1
        cases h2
        exact ⟨p, rfl, n, r⟩
/-- an arc more -/
theorem ImKv.snoc {S : List Addr} {H : Hp} {k : Key} {v : V} {d : PyData} : ∀ {kvs : List (Key × V)} {ds : List (PyData × PyData)}, ImKv S H kvs ds → Im S H v d → ImKv S H (kvs ++ [(k, v)]) (ds ++ [(kD k, d)])
  | _, _, .nil, h => .cons h .nil
  | _, _, .cons a t, h => .cons a (ImKv.snoc t h)
theorem ImKv.keys {S : List Addr} {H : Hp} : ∀ {kvs : List (Key × V)} {ds : List (PyData × PyData)}, ImKv S H kvs ds → ds.map (·.1) = kvs.map fun kv => kD kv.1
  | _, _, .nil => rfl
  | _, _, .cons a t => by rw [List.map_cons, List.map_cons, ImKv.keys t]
theorem kD_map {ks : List Key} {xs : List Str} (h : ks.map kD = xs.map PyData.str) : ks = xs.map Sum.inr := by
  induction ks generalizing xs with
  | nil => cases xs with
    | nil => rfl
    | cons x r => simp at h
  | cons k r ih => cases xs with
    | nil => simp at h
    | cons x t =>
      rw [List.map_cons, List.map_cons] at h
      injection h with h1 h2
      rw [ih h2, List.map_cons]
      cases k with
      | inl i => cases h1
      | inr z => cases h1; rfl
theorem kvs_keys {S : List Addr} {H : Hp} {A : Arcs} {kvs : List (Key × V)} (h : ImKv S H kvs (kvsD A)) : kvs.map (·.1) = (A.map (·.1)).map Sum.inr := by
  have e := h.keys
  refine kD_map ?_
  rw [List.map_map, List.map_map]
  show (kvs.map fun kv => kD kv.1) = _
  rw [← e]
  unfold kvsD
  rw [List.map_map]; rfl
theorem inr_nodup {xs : List Str} (h : xs.Nodup) : (xs.map (Sum.inr : Str → Key)).Nodup := by
  rw [List.nodup_iff_pairwise_ne, List.pairwise_map]
  exact (List.nodup_iff_pairwise_ne.mp h).imp fun hab z => hab (by injection z)
theorem putK_new {κ : Type} [DecidableEq κ] {kvs : List (κ × V)} {k : κ} {v : V} (h : k ∉ kvs.map (·.1)) : putK kvs k v = kvs ++ [(k, v)] := by
  unfold putK
  rw [if_neg]
  intro z
  obtain ⟨p, hp, e⟩ := List.any_eq_true.mp z
  exact h (List.mem_map.mpr ⟨p, hp, of_decide_eq_true e⟩)
theorem s_dnew {H : Hp} {Q : VK} {σ : L2.St} (h : ∀ d, H d = none → Q (.ref d) (upd H d (.dK []))) : tDNewK σ H Q := h
/-- the step of two draws' work: a multiple below -/
theorem step_mul {d t : Int} (h0 : 0 ≤ d) (ht : 1 ≤ t) : 0 ≤ d / t * t ∧ d / t * t ≤ d ∧ 0 ≤ d / t ∧ d / t ≤ d :=
  have a : 0 ≤ d / t := Int.ediv_nonneg h0 (by omega)
  ⟨Int.mul_nonneg a (by omega), Int.ediv_mul_le d (by omega), a, Int.ediv_le_self t h0⟩
end RG

/-! dicts that are only read: items, walks with or without a lock; zip of lists or tuples -/
namespace RG
open PySem PySem.Spec PyProof.Rows L2
section
variable {X : Cx}
/-- list(d.items()): a new list of new pairs -/
def tLItems (te : TE) : TE := fun σ H Q => te σ H fun x H1 => ∃ (d : Addr) (kvs : List (Key × V)), x = .ref d ∧ Rd H1 d (.dK kvs) ∧
  ∀ (H' : Hp) (l : Addr) (as : List Addr), (∀ b o, H1 b = some o → H' b = some o) → H1 l = none → (∀ t ∈ as, H1 t = none) → l ∉ as → H' l = some (.lst (as.map V.ref)) → Paired (fun (t : Addr) (q : Key × V) => H' t = some (.tup [kV q.1, q.2])) as kvs → Q (.ref l) H'
theorem pe_litems {e : Expr} {te : TE} {p ap cp pos : Pos} (calm : X.calm = true) (he : PE X e te) (gl : Gl X "list") (fr : X.mg "list" = none)
    (hb : attributeBase e "items" X.env (eval e X.env) = eval e X.env := by rfl) (hl : (ap.endLine == cp.line) = true := by rfl)
    (hs : starEach [.Call (.Attribute e "items" ap) [] [] cp] X.env = (false, eval (.Call (.Attribute e "items" ap) [] [] cp) X.env) :: starEach [] X.env := by rfl) :
    PE X (.Call (.Name "list" p) [.Call (.Attribute e "items" ap) [] [] cp] [] pos) (tLItems te) := by
  constructor
  intro pins s σ H Q I hq
  refine wpAny_Call_Name_kw (ld_blt I gl fr (by decide +kernel : bootBuiltins "list" = some (.type "list")) (PyProof.Rows.callWith_type1 ?_ hs rfl))
  rw [hs]
  refine Calls.spliced_cons (wpAny_Call_method (T := "dict") (id := "dict.items") hb rfl hl F.plainAttrs_dict F.slot_dict_items F.type_dict_items ?_)
  refine thn (he.run pins s σ H _ I hq) fun u s1 ⟨x, H1, J, rx, d, kvs, ex, rd, q⟩ => ?_
  subst ex
  obtain rfl : u = Value.ref d := rx
  obtain ⟨len, sysm, vs, kv, dOf⟩ := dk_rd J.hok rd
  obtain ⟨ep, at_⟩ := dOf.dictAt
  have same : kvs.length = vs.length := Paired.length kv
  have J2 : Inv X pins σ H1 { s1 with heap := s1.heap.push { cls := .type "dict_items", data := .fields #[.ref d] } } :=
    J.kept (t' := s1.toks) fun b o => Heap.get?_push_of_some _
  refine ⟨dOf.typeIs, dOf.mapOf.noDict, method_meetsIn F.slot_dict_items F.entry_dict_items rfl (PySem.evalArgs_none ?_)⟩
  refine ⟨rfl, dOf.typeIs, F.args_dict_items_1 _, _, meets_dict_items (mixKind X.prog X.w) d sysm, ⟨vs, dOf⟩, Calls.spliced_nil ?_⟩
  refine PySem.W.kdx_call (knd := mixKind X.prog X.w) (kvs := vs) (ep := ep) (J.ok.hd calm) ⟨_, Heap.get?_push_size _ rfl, rfl, rfl⟩ (at_.push _) (by omega) ?_
  intro h' tk acc c as k1 k2 k3 k4 k5
  obtain ⟨H', a1, a2, a3, a4, a5, a6, Z⟩ := LiI.items_laid (tk := tk) J2 len kv k1 k2 k3 k4 k5
  exact ⟨.ref _, H', Z, rfl, q H' _ as a1 a2 a3 a4 a5 a6⟩
/-- two readings of one: either is enough -/
theorem PE.or {e : Expr} {t u : TE} (a : PE X e t) (b : PE X e u) : PE X e (fun σ H Q => t σ H Q ∨ u σ H Q) := ⟨fun pins s σ H Q I h => h.elim (a.run pins s σ H Q I) (b.run pins s σ H Q I)⟩
theorem PS.or {e : Stmt} {t u : TS} (a : PS X e t) (b : PS X e u) : PS X e (fun D σ H => t D σ H ∨ u D σ H) := ⟨fun pins s σ H D I h => h.elim (a.run pins s σ H D I) (b.run pins s σ H D I)⟩
/-- a built-in class by its name, as a value -/
theorem pe_tyn (T : String) {x : Str} {pos : Pos} (hm : X.mg x = none) (hg : Gl X x := by rfl) (hv : bootBuiltins x = some (.type T) := by decide +kernel) (hn : x ≠ "__name__" := by decide) (hd : (x == ("__debug__" : Str)) = false := by decide) : PE X (.Name x pos) (tC (.ty T)) :=
  pe_bltn hg hm hv (v := .ty T) rfl hn hd
/-- a walk over a dict: locked here, or locked already -/
def tLockU (t : TE) : TE := fun σ H Q => tLockE t σ H Q ∨ t σ H Q
def sLockU (t : TS) : TS := fun D σ H => tLock t D σ H ∨ t D σ H
theorem pe_lockU {e : Expr} {t : TE} (a : PE X e t) : PE X e (tLockU t) := PE.or (pe_lock a) a
theorem ps_lockU {e : Stmt} {t : TS} (a : PS X e t) : PS X e (sLockU t) := PS.or (ps_lock a) a
theorem ki_zipA (K : PySem.W.Frag) {e e2 : Expr} {ta : TA} {p pos tpos : Pos} {elts : List Expr} {kk : Nat} (hg : Gl X "zip") (hm : X.mg "zip" = none) (ha : PA X [e, e2] ta)
    (hs : starEach [e, e2] X.env = (false, eval e X.env) :: starEach [e2] X.env := by rfl) (hpl : (backTo pos (starEach [e2] X.env)).any (·.1) = false := by rfl) (hK : X.K = K := by rfl) :
    PI X (.Tuple elts kk tpos) (.Call (.Name "zip" p) [e, e2] [] pos) (RZ.iZipA K ta) := by subst hK; exact RZ.pi_zipA hg hm ha hs hpl
end
theorem runs_zipT {K : PySem.W.Frag} {a b : Addr} {xs ys : List V} (hl : xs.length = ys.length) : Runs (RZ.ItzT K a b) xs.length (fun H => SqT K H a xs ∧ SqT K H b ys)
    (fun i H v H' => ∃ T x y, v = .ref T ∧ H T = none ∧ H' = upd H T (.tup [x, y]) ∧ xs[i]? = some x ∧ ys[i]? = some y) :=
  ⟨fun i H h hi => ⟨xs, ys, xs[i], ys[i], h.1, h.2, List.getElem?_eq_getElem hi, List.getElem?_eq_getElem (by omega)⟩, fun i H h hi => ⟨xs, ys, h.1, h.2, .inl hi⟩,
    fun i H x H' h hi ⟨T, x, y, a, b, c, d, e⟩ => ⟨T, x, y, a, b, c, d xs h.1, e ys h.2⟩⟩
section
variable {σ : L2.St} {H : Hp} {Q : VK} {v : V} {K : PySem.W.Frag}
theorem s_zipA {ta : TA} {R : It → Hp → Prop} (h : ta σ H fun vs H1 => ∃ a b xs ys, vs = [.ref a, .ref b] ∧ ((SqL K H1 a xs ∧ SqL K H1 b ys ∧ R (Itz K a b) H1) ∨ (SqT K H1 a xs ∧ SqT K H1 b ys ∧ R (RZ.ItzT K a b) H1))) : RZ.iZipA K ta σ H R := h
theorem s_litems {te : TE} (h : te σ H fun x H1 => ∃ (d : Addr) (kvs : List (Key × V)), x = .ref d ∧ Rd H1 d (.dK kvs) ∧
  ∀ (H' : Hp) (l : Addr) (as : List Addr), (∀ b o, H1 b = some o → H' b = some o) → H1 l = none → (∀ t ∈ as, H1 t = none) → l ∉ as → H' l = some (.lst (as.map V.ref)) → Paired (fun (t : Addr) (q : Key × V) => H' t = some (.tup [kV q.1, q.2])) as kvs → Q (.ref l) H') : tLItems te σ H Q := h
end
/-- a walk's lock: by what is read of the dict; the walk sees it locked, what stays is put back -/
theorem lock_s {t : TS} {D : Ends} {σ : L2.St} {H : Hp} {d : Addr} {kvs : List (Key × V)} (r : Rd H d (.dK kvs))
    (h : ∀ (H1 : Hp) (od : Obj) (nx : L2.St → Hp → Prop) (rt : VK) (bk ct : L2.St → Hp → Prop), Rx [] H H1 → (∀ b, b ≠ d → H1 b = H b) → H1 d = some (.frz od (.dK kvs)) →
      (∀ σ' H', H' d = some (.frz od (.dK kvs)) → (∀ H2, Rx [] H' H2 → (∀ b, b ≠ d → H2 b = H' b) → H2 d = H d → D.nx σ' H2) → nx σ' H') →
      (∀ v H', H' d = some (.frz od (.dK kvs)) → (∀ H2, Rx [] H' H2 → (∀ b, b ≠ d → H2 b = H' b) → H2 d = H d → D.rt v H2) → rt v H') → t ⟨nx, rt, bk, ct⟩ σ H1) : sLockU t D σ H := by
  rcases r with r | ⟨o, r⟩
  · refine .inl ⟨d, .dK kvs, r, trivial, fun od => ?_⟩
    refine h _ od _ _ _ _ (Rx.lock r .d) (fun b hb => upd_ne hb) upd_same (fun σ' H' e k => ⟨e, k _ (Rx.unlock e) (fun b hb => upd_ne hb) (by rw [upd_same, r])⟩) (fun v H' e k => ⟨e, k _ (Rx.unlock e) (fun b hb => upd_ne hb) (by rw [upd_same, r])⟩)
  · refine .inr ?_
    have := h H o D.nx D.rt D.bk D.ct (Rx.refl _ _) (fun _ _ => rfl) r (fun σ' H' e k => k H' (Rx.refl _ _) (fun _ _ => rfl) (by rw [e, r])) (fun v H' e k => k H' (Rx.refl _ _) (fun _ _ => rfl) (by rw [e, r]))
    exact this
theorem lock_e {t : TE} {Q : VK} {σ : L2.St} {H : Hp} {d : Addr} {kvs : List (Key × V)} (r : Rd H d (.dK kvs))
    (h : ∀ (H1 : Hp) (od : Obj) (R : VK), Rx [] H H1 → (∀ b, b ≠ d → H1 b = H b) → H1 d = some (.frz od (.dK kvs)) →
      (∀ v H', H' d = some (.frz od (.dK kvs)) → (∀ H2, Rx [] H' H2 → (∀ b, b ≠ d → H2 b = H' b) → H2 d = H d → Q v H2) → R v H') → t σ H1 R) : tLockU t σ H Q := by
  rcases r with r | ⟨o, r⟩
  · refine .inl ⟨d, .dK kvs, r, trivial, fun od => ?_⟩
    exact h _ od _ (Rx.lock r .d) (fun b hb => upd_ne hb) upd_same (fun v H' e k => ⟨e, k _ (Rx.unlock e) (fun b hb => upd_ne hb) (by rw [upd_same, r])⟩)
  · exact .inr (h H o Q (Rx.refl _ _) (fun _ _ => rfl) r (fun v H' e k => k H' (Rx.refl _ _) (fun _ _ => rfl) (by rw [e, r])))

/-! ### how deep, how wide -/
mutual
def dep : PyData → Nat
  | .none | .bool _ | .int _ | .str _ => 0
  | .list xs | .tuple xs => depAll xs + 1
  | .dict kvs => depKv kvs + 3
def depAll : List PyData → Nat
  | [] => 0
  | x :: xs => max (dep x) (depAll xs)
def depKv : List (PyData × PyData) → Nat
  | [] => 0
  | (k, v) :: r => max (max (dep k) (dep v)) (depKv r)
end
mutual
def sm : PyData → Bool
  | .none | .bool _ => true
  | .int i => decide (i.natAbs < 2 ^ 100)
  | .str x => decide (x.length ≤ 1000)
  | .list xs | .tuple xs => decide (xs.length ≤ 1000) && smAll xs
  | .dict kvs => decide (kvs.length ≤ 1000) && smKv kvs
def smAll : List PyData → Bool
  | [] => true
  | x :: xs => sm x && smAll xs
def smKv : List (PyData × PyData) → Bool
  | [] => true
  | (k, v) :: r => sm k && sm v && smKv r
end
theorem depAll_mem : ∀ {xs : List PyData} {d : PyData}, d ∈ xs → dep d ≤ depAll xs
  | x :: r, d, h => by
    rw [depAll]
    rcases List.mem_cons.mp h with e | h
    · rw [e]; exact Nat.le_max_left _ _
    · exact Nat.le_trans (depAll_mem h) (Nat.le_max_right _ _)
theorem smAll_mem : ∀ {xs : List PyData} {d : PyData}, smAll xs = true → d ∈ xs → sm d = true
  | x :: r, d, hs, h => by
    rw [smAll, Bool.and_eq_true] at hs
    rcases List.mem_cons.mp h with e | h
    · rw [e]; exact hs.1
    · exact smAll_mem hs.2 h
def itemsD (ds : List (PyData × PyData)) : PyData := .list (ds.map fun p => .tuple [p.1, p.2])
theorem dep_items : ∀ ds : List (PyData × PyData), depAll (ds.map fun p => PyData.tuple [p.1, p.2]) ≤ depKv ds + 1
  | [] => by simp [depAll, depKv]
  | (k, v) :: r => by
    have ih := dep_items r
    rw [List.map_cons, depAll, depKv, dep, depAll, depAll, depAll]
    dsimp only
    omega
theorem sm_items : ∀ ds : List (PyData × PyData), smKv ds = true → smAll (ds.map fun p => PyData.tuple [p.1, p.2]) = true
  | [], _ => by simp [smAll]
  | (k, v) :: r, h => by
    rw [smKv, Bool.and_eq_true, Bool.and_eq_true] at h
    rw [List.map_cons, smAll, sm_items r h.2, sm, smAll, smAll, smAll, h.1.1, h.1.2]
    simp
theorem Im.key {S : List Addr} {H : Hp} : ∀ k : Key, Im S H (kV k) (kD k)
  | .inl i => .int i
  | .inr x => .str x
/-- the new pairs of list(d.items()) -/
theorem ImAll.items {S T : List Addr} {H H' : Hp} (g : ∀ b o, H b = some o → H' b = some o) (hT : ∀ a ∈ T, a ∈ S ∨ H a = none) : ∀ {kvs : List (Key × V)} {ds : List (PyData × PyData)} {as : List Addr}, ImKv S H kvs ds →
    Paired (fun (t : Addr) (q : Key × V) => H' t = some (.tup [kV q.1, q.2])) as kvs → (∀ t ∈ as, t ∉ T) → ImAll T H' (as.map V.ref) (ds.map fun p => .tuple [p.1, p.2])
  | _, _, _, .nil, .nil, _ => .nil
  | _, _, _, .cons h t, .cons e r, hn => .cons (.tup (hn _ List.mem_cons_self) (.inl e) (.cons (Im.key _) (.cons (Im.rx (fun a u _ _ z => z.elim (fun z => .inl (g a _ z)) (fun ⟨o, z⟩ => .inr ⟨o, g a _ z⟩)) _ (Im.sub hT _ h)) .nil)))
      (ImAll.items g hT t r fun a ha => hn a (List.mem_cons_of_mem _ ha))
/-- ImAll at an index, from the values -/
theorem ImAll.at_ {S : List Addr} {H : Hp} {vs : List V} {ds : List PyData} (h : ImAll S H vs ds) {i : Nat} {v : V} (e : vs[i]? = some v) : ∃ d, ds[i]? = some d ∧ Im S H v d := by
  have hi : i < ds.length := by rw [← h.length]; exact (List.getElem?_eq_some_iff.mp e).1
  obtain ⟨w, e2, q⟩ := h.get (List.getElem?_eq_getElem hi)
  rw [e] at e2
  cases e2
  exact ⟨_, List.getElem?_eq_getElem hi, q⟩
theorem Nx.ofSame {S : List Addr} {H H' : Hp} (g : ∀ b o, H b = some o → H' b = some o) : Nx S H H' := ⟨fun a o _ e => g a o e, fun a h => by
  cases e : H a with
  | none => exact absurd e h
  | some o => rw [g a o e]; simp⟩

/-! ### the six questions -/
def isDictD : PyData → Bool
  | .dict _ => true
  | _ => false
theorem isT_dict (d : PyData) : isT d "dict" = isDictD d := by
  cases d <;> first | exact (by decide +kernel : subT "NoneType" "dict" = false) | exact (by decide +kernel : subT "bool" "dict" = false) | exact (by decide +kernel : subT "int" "dict" = false) | exact (by decide +kernel : subT "str" "dict" = false) | exact (by decide +kernel : subT "list" "dict" = false) | exact (by decide +kernel : subT "tuple" "dict" = false) | exact (by decide +kernel : subT "dict" "dict" = true)
theorem s_isDict {S : List Addr} {H : Hp} {Q : VK} {x : V} {d : PyData} (i : Im S H x d) (h : Q (.bl (isDictD d)) H) : rIsD [x, .ty "dict"] H Q := s_isD i (by decide) (by rw [isT_dict]; exact h)
def isListD : PyData → Bool
  | .list _ => true
  | _ => false
theorem isT_list (d : PyData) : isT d "list" = isListD d := by
  cases d <;> first | exact (by decide +kernel : subT "NoneType" "list" = false) | exact (by decide +kernel : subT "bool" "list" = false) | exact (by decide +kernel : subT "int" "list" = false) | exact (by decide +kernel : subT "str" "list" = false) | exact (by decide +kernel : subT "list" "list" = true) | exact (by decide +kernel : subT "tuple" "list" = false) | exact (by decide +kernel : subT "dict" "list" = false)
theorem s_isList {S : List Addr} {H : Hp} {Q : VK} {x : V} {d : PyData} (i : Im S H x d) (h : Q (.bl (isListD d)) H) : rIsD [x, .ty "list"] H Q := s_isD i (by decide) (by rw [isT_list]; exact h)
def isTupD : PyData → Bool
  | .tuple _ => true
  | _ => false
theorem isT_tuple (d : PyData) : isT d "tuple" = isTupD d := by
  cases d <;> first | exact (by decide +kernel : subT "NoneType" "tuple" = false) | exact (by decide +kernel : subT "bool" "tuple" = false) | exact (by decide +kernel : subT "int" "tuple" = false) | exact (by decide +kernel : subT "str" "tuple" = false) | exact (by decide +kernel : subT "list" "tuple" = false) | exact (by decide +kernel : subT "tuple" "tuple" = true) | exact (by decide +kernel : subT "dict" "tuple" = false)
theorem s_isTup {S : List Addr} {H : Hp} {Q : VK} {x : V} {d : PyData} (i : Im S H x d) (h : Q (.bl (isTupD d)) H) : rIsD [x, .ty "tuple"] H Q := s_isD i (by decide) (by rw [isT_tuple]; exact h)
def isStrD : PyData → Bool
  | .str _ => true
  | _ => false
theorem isT_str (d : PyData) : isT d "str" = isStrD d := by
  cases d <;> first | exact (by decide +kernel : subT "NoneType" "str" = false) | exact (by decide +kernel : subT "bool" "str" = false) | exact (by decide +kernel : subT "int" "str" = false) | exact (by decide +kernel : subT "str" "str" = true) | exact (by decide +kernel : subT "list" "str" = false) | exact (by decide +kernel : subT "tuple" "str" = false) | exact (by decide +kernel : subT "dict" "str" = false)
theorem s_isStr {S : List Addr} {H : Hp} {Q : VK} {x : V} {d : PyData} (i : Im S H x d) (h : Q (.bl (isStrD d)) H) : rIsD [x, .ty "str"] H Q := s_isD i (by decide) (by rw [isT_str]; exact h)
def isIntD : PyData → Bool
  | .int _ => true
  | .bool _ => true
  | _ => false
theorem isT_int (d : PyData) : isT d "int" = isIntD d := by
  cases d <;> first | exact (by decide +kernel : subT "NoneType" "int" = false) | exact (by decide +kernel : subT "bool" "int" = true) | exact (by decide +kernel : subT "int" "int" = true) | exact (by decide +kernel : subT "str" "int" = false) | exact (by decide +kernel : subT "list" "int" = false) | exact (by decide +kernel : subT "tuple" "int" = false) | exact (by decide +kernel : subT "dict" "int" = false)
theorem s_isInt {S : List Addr} {H : Hp} {Q : VK} {x : V} {d : PyData} (i : Im S H x d) (h : Q (.bl (isIntD d)) H) : rIsD [x, .ty "int"] H Q := s_isD i (by decide) (by rw [isT_int]; exact h)
def isBoolD : PyData → Bool
  | .bool _ => true
  | _ => false
theorem isT_bool (d : PyData) : isT d "bool" = isBoolD d := by
  cases d <;> first | exact (by decide +kernel : subT "NoneType" "bool" = false) | exact (by decide +kernel : subT "bool" "bool" = true) | exact (by decide +kernel : subT "int" "bool" = false) | exact (by decide +kernel : subT "str" "bool" = false) | exact (by decide +kernel : subT "list" "bool" = false) | exact (by decide +kernel : subT "tuple" "bool" = false) | exact (by decide +kernel : subT "dict" "bool" = false)
theorem s_isBool {S : List Addr} {H : Hp} {Q : VK} {x : V} {d : PyData} (i : Im S H x d) (h : Q (.bl (isBoolD d)) H) : rIsD [x, .ty "bool"] H Q := s_isD i (by decide) (by rw [isT_bool]; exact h)
/-- isinstance(x, (list, tuple)) and the like, the tuple just made -/
theorem s_isLT {S : List Addr} {H : Hp} {Q : VK} {x : V} {d : PyData} {p : Addr} (i : Im S H x d) (h : Q (.bl (isListD d || isTupD d)) (upd H p (.tup [.ty "list", .ty "tuple"]))) (n : H p = none) :
    rIsDT [x, .ref p] (upd H p (.tup [.ty "list", .ty "tuple"])) Q := ⟨x, p, ["list", "tuple"], S, d, rfl, upd_same, by decide, i.nx (.new n), by
  rw [List.any_cons, List.any_cons, List.any_nil, isT_list, isT_tuple, Bool.or_false]; exact h⟩
theorem s_isDLT {S : List Addr} {H : Hp} {Q : VK} {x : V} {d : PyData} {p : Addr} (i : Im S H x d) (h : Q (.bl (isDictD d || (isListD d || isTupD d))) (upd H p (.tup [.ty "dict", .ty "list", .ty "tuple"]))) (n : H p = none) :
    rIsDT [x, .ref p] (upd H p (.tup [.ty "dict", .ty "list", .ty "tuple"])) Q := ⟨x, p, ["dict", "list", "tuple"], S, d, rfl, upd_same, by decide, i.nx (.new n), by
  rw [List.any_cons, List.any_cons, List.any_cons, List.any_nil, isT_list, isT_tuple, isT_dict, Bool.or_false]; exact h⟩
theorem s_isTSBI {S : List Addr} {H : Hp} {Q : VK} {x : V} {d : PyData} {p : Addr} (i : Im S H x d) (h : Q (.bl (isTupD d || (isStrD d || (isBoolD d || isIntD d)))) (upd H p (.tup [.ty "tuple", .ty "str", .ty "bool", .ty "int"]))) (n : H p = none) :
    rIsDT [x, .ref p] (upd H p (.tup [.ty "tuple", .ty "str", .ty "bool", .ty "int"])) Q := ⟨x, p, ["tuple", "str", "bool", "int"], S, d, rfl, upd_same, by decide, i.nx (.new n), by
  rw [List.any_cons, List.any_cons, List.any_cons, List.any_cons, List.any_nil, isT_tuple, isT_str, isT_bool, isT_int, Bool.or_false]; exact h⟩
theorem s_isN {H : Hp} {Q : VK} {x : V} (h : Q (.bl (decide (x = .non))) H) : (fun (x y : V) (H : Hp) (Q : VK) => y = V.non ∧ Q (.bl (decide (x = .non))) H) x .non H Q := ⟨rfl, h⟩
end RG

/-! data told loosely: lists for tuples, tuples for lists, dicts in another order; dicts from pairs -/
namespace RG
open PySem PySem.Spec PyProof.Rows L2
mutual
inductive Lo : PyData → PyData → Prop
  | leaf {d : PyData} : isDictD d = false → isListD d = false → isTupD d = false → Lo d d
  | ll {ds es : List PyData} : LoAll ds es → Lo (.list ds) (.list es)
  | lt {ds es : List PyData} : LoAll ds es → Lo (.list ds) (.tuple es)
  | tl {ds es : List PyData} : LoAll ds es → Lo (.tuple ds) (.list es)
  | tt {ds es : List PyData} : LoAll ds es → Lo (.tuple ds) (.tuple es)
  | dct {ds ds1 es : List (PyData × PyData)} : ds1.Perm ds → LoKv ds1 es → Lo (.dict ds) (.dict es)
inductive LoAll : List PyData → List PyData → Prop
  | nil : LoAll [] []
  | cons {d e : PyData} {ds es : List PyData} : Lo d e → LoAll ds es → LoAll (d :: ds) (e :: es)
inductive LoKv : List (PyData × PyData) → List (PyData × PyData) → Prop
  | nil : LoKv [] []
  | cons {k d e : PyData} {ds es : List (PyData × PyData)} : Lo d e → LoKv ds es → LoKv ((k, d) :: ds) ((k, e) :: es)
end
theorem LoAll.snoc {d e : PyData} : ∀ {ds es : List PyData}, LoAll ds es → Lo d e → LoAll (ds ++ [d]) (es ++ [e])
  | _, _, .nil, h => .cons h .nil
  | _, _, .cons a t, h => .cons a (LoAll.snoc t h)
theorem LoKv.snoc {k d e : PyData} : ∀ {ds es : List (PyData × PyData)}, LoKv ds es → Lo d e → LoKv (ds ++ [(k, d)]) (es ++ [(k, e)])
  | _, _, .nil, h => .cons h .nil
  | _, _, .cons a t, h => .cons a (LoKv.snoc t h)
mutual
def wt : PyData → Nat
  | .none | .bool _ | .int _ | .str _ => 0
  | .list xs | .tuple xs => wtAll xs + 1
  | .dict kvs => wtKv kvs + kvs.length
def wtAll : List PyData → Nat
  | [] => 0
  | x :: xs => wt x + wtAll xs
def wtKv : List (PyData × PyData) → Nat
  | [] => 0
  | (_, v) :: r => wt v + wtKv r
end
theorem wtAll_app : ∀ (xs ys : List PyData), wtAll (xs ++ ys) = wtAll xs + wtAll ys
  | [], ys => by simp [wtAll]
  | x :: r, ys => by rw [List.cons_append, wtAll, wtAll, wtAll_app r ys]; omega
theorem wtKv_app : ∀ (xs ys : List (PyData × PyData)), wtKv (xs ++ ys) = wtKv xs + wtKv ys
  | [], ys => by simp [wtKv]
  | (k, x) :: r, ys => by rw [List.cons_append, wtKv, wtKv, wtKv_app r ys]; omega
theorem wtKv_perm {xs ys : List (PyData × PyData)} (h : xs.Perm ys) : wtKv xs = wtKv ys := by
  induction h with
  | nil => rfl
  | cons x _ ih => obtain ⟨k, v⟩ := x; rw [wtKv, wtKv, ih]
  | swap x y l => obtain ⟨k, v⟩ := x; obtain ⟨k2, v2⟩ := y; rw [wtKv, wtKv, wtKv, wtKv]; omega
  | trans _ _ a b => exact a.trans b
theorem wtAll_take {xs : List PyData} (i : Nat) : wtAll (xs.take i) ≤ wtAll xs := by
  have := wtAll_app (xs.take i) (xs.drop i)
  rw [List.take_append_drop] at this; omega
theorem wtKv_take {xs : List (PyData × PyData)} (i : Nat) : wtKv (xs.take i) ≤ wtKv xs := by
  have := wtKv_app (xs.take i) (xs.drop i)
  rw [List.take_append_drop] at this; omega
theorem depKv_mem : ∀ {xs : List (PyData × PyData)} {p : PyData × PyData}, p ∈ xs → dep p.2 ≤ depKv xs
  | (k, v) :: r, p, h => by
    rw [depKv]
    rcases List.mem_cons.mp h with e | h
    · rw [e]; exact Nat.le_trans (Nat.le_max_right _ _) (Nat.le_max_left _ _)
    · exact Nat.le_trans (depKv_mem h) (Nat.le_max_right _ _)
theorem smKv_mem : ∀ {xs : List (PyData × PyData)} {p : PyData × PyData}, smKv xs = true → p ∈ xs → sm p.1 = true ∧ sm p.2 = true
  | (k, v) :: r, p, hs, h => by
    rw [smKv, Bool.and_eq_true, Bool.and_eq_true] at hs
    rcases List.mem_cons.mp h with e | h
    · rw [e]; exact hs.1
    · exact smKv_mem hs.2 h
section
variable {X : Cx} {tg : Expr}
theorem PI.or {e : Expr} {wi wi' : TI} (a : PI X tg e wi) (b : PI X tg e wi') : PI X tg e (fun σ H R => wi σ H R ∨ wi' σ H R) := ⟨fun pins s σ H R I h => h.elim (a.run pins s σ H R I) (b.run pins s σ H R I)⟩
/-- a walk over a list or a tuple -/
def iSeq (K : PySem.W.Frag) (tl : TE) : TI := fun σ H R => iList K tl σ H R ∨ iTup K tl σ H R
theorem ki_seq (K : PySem.W.Frag) {l : Expr} {tl : TE} (hl : PE X l tl) (hK : X.K = K := by rfl) : PI X tg l (iSeq K tl) := PI.or (ki_list K hl hK) (ki_tup K hl hK)
theorem CallR.or {f : Value} {r r' : List V → Hp → VK → Prop} (a : CallR X f r) (b : CallR X f r') : CallR X f (fun xs H Q => r xs H Q ∨ r' xs H Q) := fun pins s σ H xs us Q I rv h => h.elim (a pins s σ H xs us Q I rv) (b pins s σ H xs us Q I rv)
/-- dict(a list of pairs) -/
def rDictP (K : PySem.W.Frag) : List V → Hp → VK → Prop := fun xs H Q => ∃ (a : Addr) (ps : List Addr) (kvs : List (Key × V)), xs = [.ref a] ∧ SqL K H a (ps.map V.ref) ∧ Paired (fun p kv => SqT K H p [kV kv.1, kv.2]) ps kvs ∧
  ∀ p, H p = none → Q (.ref p) (upd H p (.dK (mergeK [] kvs)))
theorem kdictP (K : PySem.W.Frag) (hc : X.calm = true := by rfl) (hK : X.K = K := by rfl) : CallR X (.type "dict") (rDictP K) := by subst hK; exact call_dictP hc
/-- dict(a dict) -/
def rDictD : List V → Hp → VK → Prop := fun xs H Q => ∃ (a : Addr) (kvs : List (Key × V)), xs = [.ref a] ∧ Rd H a (.dK kvs) ∧ ∀ p, H p = none → Q (.ref p) (upd H p (.dK kvs))
theorem kdictD : CallR X (.type "dict") rDictD := call_dictD
/-- list(a dict): its keys -/
def rListD : List V → Hp → VK → Prop := fun xs H Q => ∃ (a : Addr) (kvs : List (Key × V)), xs = [.ref a] ∧ Rd H a (.dK kvs) ∧ ∀ p, H p = none → Q (.ref p) (upd H p (.lst (kvs.map fun kv => kV kv.1)))
theorem klistD (hc : X.calm = true := by rfl) : CallR X (.type "list") rListD := call_listD hc
end
theorem merge_app : ∀ (more kvs : List (Key × V)), ((kvs ++ more).map (·.1)).Nodup → mergeK kvs more = kvs ++ more
  | [], kvs, _ => by simp [mergeK]
  | (k, v) :: r, kvs, h => by
    have hn : k ∉ kvs.map (·.1) := by
      rw [List.map_append, List.map_cons] at h
      intro hk
      exact (List.nodup_append.mp h).2.2 k hk k List.mem_cons_self rfl
    show mergeK (putK kvs k v) r = _
    rw [putK_new hn, merge_app r (kvs ++ [(k, v)]) (by rw [List.append_assoc]; exact h), List.append_assoc]
    rfl
theorem merge_nil {kvs : List (Key × V)} (h : (kvs.map (·.1)).Nodup) : mergeK [] kvs = kvs := by
  have := merge_app kvs [] (by simpa using h)
  simpa using this
/-- a key's value in a dict of unlike keys -/
theorem valV_of {κ : Type} [DecidableEq κ] : ∀ {kvs : List (κ × V)} {k : κ} {v : V}, (kvs.map (·.1)).Nodup → (k, v) ∈ kvs → valV kvs k = some v
  | (k1, v1) :: r, k, v, nd, h => by
    rcases List.mem_cons.mp h with e | h
    · cases e; exact valV_pos rfl
    · rw [List.map_cons, List.nodup_cons] at nd
      have hne : ¬ k1 = k := fun e => nd.1 (by rw [e]; exact List.mem_map.mpr ⟨_, h, rfl⟩)
      rw [valV_neg (p := (k1, v1)) hne]
      exact valV_of nd.2 h
theorem ImKv.get : ∀ {S : List Addr} {H : Hp} {kvs : List (Key × V)} {ds : List (PyData × PyData)}, ImKv S H kvs ds → ∀ {i : Nat} {kv : Key × V}, kvs[i]? = some kv → ∃ d, ds[i]? = some (kD kv.1, d) ∧ Im S H kv.2 d
  | _, _, _, _, .nil, i, kv, e => by simp at e
  | _, _, _, _, .cons a t, 0, kv, e => by simp at e; subst e; exact ⟨_, rfl, a⟩
  | _, _, _, _, .cons a t, i + 1, kv, e => by
    simp at e
    obtain ⟨d, h1, h2⟩ := ImKv.get t e
    exact ⟨d, by simpa using h1, h2⟩
/-- a dict's values in another order -/
theorem ImKv.perm {S : List Addr} {H : Hp} {kvs kvs2 : List (Key × V)} (p : kvs2.Perm kvs) : ∀ {ds : List (PyData × PyData)}, ImKv S H kvs ds → ∃ ds2, ds2.Perm ds ∧ ImKv S H kvs2 ds2 := by
  induction p with
  | nil => intro ds h; exact ⟨ds, .refl _, h⟩
  | cons x _ ih =>
    intro ds h
    cases h with
    | cons a t =>
      obtain ⟨e, p1, q⟩ := ih t
      exact ⟨_, p1.cons _, .cons a q⟩
  | swap x y l =>
    intro ds h
    cases h with
    | cons a t =>
      cases t with
      | cons b t => exact ⟨_, .swap _ _ _, .cons b (.cons a t)⟩
  | trans _ _ ih1 ih2 =>
    intro ds h
    obtain ⟨e, p1, q⟩ := ih2 h
    obtain ⟨e2, p2, q2⟩ := ih1 q
    exact ⟨e2, p2.trans p1, q2⟩
theorem permMap {α β : Type} {f : α → β} {l ys : List β} (h : ys.Perm l) : ∀ {xs : List α}, l = xs.map f → ∃ zs : List α, zs.Perm xs ∧ zs.map f = ys := by
  induction h with
  | nil => intro xs e; exact ⟨xs, .refl _, e.symm⟩
  | cons x _ ih =>
    intro xs e
    cases xs with
    | nil => cases e
    | cons a r =>
      rw [List.map_cons] at e
      injection e with e1 e2
      obtain ⟨zs, h1, h2⟩ := ih e2
      exact ⟨a :: zs, h1.cons a, by rw [List.map_cons, h2, e1]⟩
  | swap x y l =>
    intro xs e
    cases xs with
    | nil => cases e
    | cons a r =>
      rw [List.map_cons] at e
      injection e with e1 e2
      cases r with
      | nil => cases e2
      | cons b r =>
        rw [List.map_cons] at e2
        injection e2 with e3 e4
        exact ⟨b :: a :: r, .swap _ _ _, by rw [List.map_cons, List.map_cons, e1, e3, e4]⟩
  | trans _ _ ih1 ih2 =>
    intro xs e
    obtain ⟨zs, h1, h2⟩ := ih2 e
    obtain ⟨ws, h3, h4⟩ := ih1 h2.symm
    exact ⟨ws, h3.trans h1, h4⟩
/-- a list that is some keys' values in another order is such a list of keys -/
theorem perm_of_map {α β : Type} {f : α → β} {xs : List α} {ys : List β} (h : ys.Perm (xs.map f)) : ∃ zs : List α, zs.Perm xs ∧ ys = zs.map f := by
  obtain ⟨zs, h1, h2⟩ := permMap h rfl
  exact ⟨zs, h1, h2.symm⟩
theorem runs_tup {K : PySem.W.Frag} {a : Addr} {xs : List V} : Runs (Itt K a) xs.length (fun H => SqT K H a xs) (fun i H x H' => H' = H ∧ xs[i]? = some x) :=
  ⟨fun i H h hi => ⟨xs, xs[i], h, List.getElem?_eq_getElem hi⟩, fun i H h hi => ⟨xs, h, hi⟩, fun i H x H' h hi ⟨e, y⟩ => ⟨e, y xs h⟩⟩
/-- a walk over data that is a list or a tuple -/
theorem s_iseq {K : PySem.W.Frag} {S : List Addr} {H : Hp} {v : V} {d : PyData} {te : TE} {σ : L2.St} {R : It → Hp → Prop} (hv : Im S H v d) (hL : (isListD d || isTupD d) = true) (ht : ∀ Q : VK, Q v H → te σ H Q)
    (h : ∀ (J : It) (xs : List V) (ds : List PyData) (G : Hp → Prop), (d = .list ds ∨ d = .tuple ds) → ImAll S H xs ds → Runs J xs.length G (fun i H x H' => H' = H ∧ xs[i]? = some x) → (∀ H', Rx S H H' → G H') → R J H) : iSeq K te σ H R := by
  cases hv with
  | @lst a xs ds na ra ia => exact .inl (ht _ ⟨a, rfl, ⟨xs, .inl ra⟩, h _ xs ds _ (.inl rfl) ia runs_list fun H' g => .inl (g a _ na .l ra)⟩)
  | @tup a xs ds na ra ia => exact .inr (ht _ ⟨a, rfl, ⟨xs, .inl ra⟩, h _ xs ds _ (.inr rfl) ia runs_tup fun H' g => .inl (g a _ na .t ra)⟩)
  | _ => cases hL
theorem LoAll.take_snoc {ds es : List PyData} {i : Nat} {d e : PyData} (h : LoAll (ds.take i) es) (hd : ds[i]? = some d) (he : Lo d e) : LoAll (ds.take (i + 1)) (es ++ [e]) := by
  rw [List.take_add_one, hd]; exact h.snoc he
theorem LoKv.take_snoc {ds es : List (PyData × PyData)} {i : Nat} {k d e : PyData} (h : LoKv (ds.take i) es) (hd : ds[i]? = some (k, d)) (he : Lo d e) : LoKv (ds.take (i + 1)) (es ++ [(k, e)]) := by
  rw [List.take_add_one, hd]; exact h.snoc he
theorem wtAll_succ {ds : List PyData} {i : Nat} {d : PyData} (hd : ds[i]? = some d) : wtAll (ds.take (i + 1)) = wtAll (ds.take i) + wt d := by
  rw [List.take_add_one, hd, wtAll_app]; rfl
theorem wtKv_succ {ds : List (PyData × PyData)} {i : Nat} {k d : PyData} (hd : ds[i]? = some (k, d)) : wtKv (ds.take (i + 1)) = wtKv (ds.take i) + wt d := by
  rw [List.take_add_one, hd, wtKv_app]; rfl
theorem LoKv.keys : ∀ {ds es : List (PyData × PyData)}, LoKv ds es → es.map (·.1) = ds.map (·.1)
  | _, _, .nil => rfl
  | _, _, .cons _ t => by rw [List.map_cons, List.map_cons, LoKv.keys t]
theorem ImKv.kD {S : List Addr} {H : Hp} : ∀ {kvs : List (Key × V)} {ds : List (PyData × PyData)}, ImKv S H kvs ds → ∀ p ∈ ds, ∃ k, p.1 = RG.kD k
  | _, _, .nil, p, hp => by simp at hp
  | _, _, .cons _ t, p, hp => by
    rcases List.mem_cons.mp hp with e | hp
    · rw [e]; exact ⟨_, rfl⟩
    · exact ImKv.kD t p hp
section
variable {X : Cx}
/-- isinstance(x, T), the class known -/
def rIsY (K : PySem.W.Frag) : List V → Hp → VK → Prop := fun xs H Q => ∃ (x : V) (t T : String), xs = [x, .ty T] ∧ t ∈ seven ∧ T ∈ six ∧ TyX K H x (.type t) ∧ Q (.bl (subT t T)) H
theorem kisY (K : PySem.W.Frag) (hK : X.K = K := by rfl) : CallR X (.builtin "isinstance") (rIsY K) := by
  subst hK
  intro pins s σ H xs us Q I r h
  obtain ⟨x, t, T, rfl, ht, hT, i, q⟩ := h
  exact call_isi pins s σ H _ us Q I r ⟨x, .ty T, _, _, _, rfl, .ty T, i, kit_ty (kit_all _ ht T hT), q⟩
end
theorem upd_back {H : Hp} {a : Addr} {o u : HO} (e : H a = some u) : upd (upd H a o) a u = H := by
  rw [upd_upd]
  funext b
  by_cases h : b = a
  · subst h; rw [upd_same, e]
  · rw [upd_ne h]
theorem dropK_snoc {κ : Type} [DecidableEq κ] {kvs : List (κ × V)} {k : κ} {v : V} (h : k ∉ kvs.map (·.1)) : dropK (kvs ++ [(k, v)]) k = kvs := by
  unfold dropK
  rw [List.filter_append, List.filter_eq_self.mpr]
  · simp
  · intro p hp
    have : p.1 ≠ k := fun e => h (by rw [← e]; exact List.mem_map_of_mem hp)
    simpa using this
theorem valV_snoc {κ : Type} [DecidableEq κ] {v : V} : ∀ {kvs : List (κ × V)} {k : κ}, k ∉ kvs.map (·.1) → valV (kvs ++ [(k, v)]) k = some v
  | [], k, _ => valV_pos rfl
  | p :: r, k, h => by
    rw [List.cons_append, valV_neg (fun e => h (by rw [← e]; exact List.mem_cons_self))]
    exact valV_snoc (fun z => h (List.mem_cons_of_mem _ z))
/-- older data after a new object at D, whatever was done at D and S since -/
theorem Im.over {S : List Addr} {H H' : Hp} {D : Addr} {v : V} {d : PyData} (n : H D = none) (g : Nx (D :: S) H H') (h : Im S H v d) : Im (D :: S) H' v d :=
  Im.nx g (Im.sub (fun a ha => (List.mem_cons.mp ha).elim (fun z => .inr (by rw [z]; exact n)) .inl) d h)
theorem Im.key_inv {S : List Addr} {H : Hp} {v : V} : ∀ {k : Key}, Im S H v (kD k) → v = kV k
  | .inl i, h => by cases h; rfl
  | .inr x, h => by cases h; rfl
theorem ImKv.apart {S : List Addr} {H : Hp} {p : Addr} {o : HO} (n : H p = none) {d : List (PyData × PyData)} {v : List (Key × V)} (h : ImKv S H v d) : ImKv (p :: S) (upd H p o) v d :=
  ImKv.rx (Nx.rx (.new n)) d (ImKv.sub (fun a ha => (List.mem_cons.mp ha).elim (fun z => .inr (by rw [z]; exact n)) .inl) d h)
theorem ImAll.snoc {S : List Addr} {H : Hp} {v : V} {d : PyData} {vs : List V} {ds : List PyData} (h : ImAll S H vs ds) (a : Im S H v d) : ImAll S H (vs ++ [v]) (ds ++ [d]) := h.append (.cons a .nil)
/-- a list of pairs, as keys and values -/
theorem ImAll.pairs_inv {S : List Addr} {H : Hp} : ∀ {ds : List (PyData × PyData)} {vs : List V}, ImAll S H vs (ds.map fun p => .tuple [p.1, p.2]) → (∀ p ∈ ds, ∃ k, p.1 = kD k) →
    ∃ (ps : List Addr) (kvs : List (Key × V)), vs = ps.map V.ref ∧ Paired (fun p kv => Rd H p (.tup [kV kv.1, kv.2])) ps kvs ∧ ImKv S H kvs ds
  | [], _, .nil, _ => ⟨[], [], rfl, .nil, .nil⟩
  | (a, b) :: r, _, .cons h t, hk => by
    obtain ⟨ps, kvs, e, pr, ik⟩ := ImAll.pairs_inv t (fun p hp => hk p (List.mem_cons_of_mem _ hp))
    obtain ⟨k, ek⟩ := hk (a, b) List.mem_cons_self
    dsimp only at ek
    subst ek
    cases h with
    | @tup p xs ds n rd al =>
      cases al with
      | cons h1 t1 =>
        cases t1 with
        | @cons v _ _ _ h2 t2 =>
          cases t2
          have e1 : _ = kV k := Im.key_inv h1
          subst e1
          exact ⟨p :: ps, (k, v) :: kvs, by rw [e]; rfl, .cons rd pr, .cons h2 ik⟩
theorem s_dictP {S : List Addr} {H : Hp} {Q : VK} {K : PySem.W.Frag} {a : Addr} {vs : List V} {ds : List (PyData × PyData)} (ra : Rd H a (.lst vs)) (im : ImAll S H vs (ds.map fun p => .tuple [p.1, p.2])) (hk : ∀ p ∈ ds, ∃ k, p.1 = kD k) (hn : (ds.map (·.1)).Nodup) (al : Al S H)
    (h : ∀ p H' kvs, H p = none → p ∉ S → Nx [] H H' → H' p = some (.dK kvs) → (kvs.map (·.1)).Nodup → ImKv (p :: S) H' kvs ds → Q (.ref p) H') : rDictP K [.ref a] H Q := by
  obtain ⟨ps, kvs, e, pr, ik⟩ := im.pairs_inv hk
  have nd : (kvs.map (·.1)).Nodup := by
    have e2 := ik.keys
    rw [e2] at hn
    rw [show (kvs.map fun kv => kD kv.1) = (kvs.map (·.1)).map kD by rw [List.map_map]; rfl] at hn
    exact List.Pairwise.of_map kD (fun a b hne e => hne (congrArg kD e)) hn
  refine ⟨a, ps, kvs, rfl, .inl (by rw [← e]; exact ra), L2.Paired.mapP pr fun p kv r => .inl r, fun p np => ?_⟩
  rw [merge_nil nd]
  exact h p _ kvs np (al.ne np) (.new np) upd_same nd (ik.apart np)
section
variable {σ : L2.St} {H : Hp} {Q : VK} {K : PySem.W.Frag}
theorem s_lockE {t : TE} (h : tLockU t σ H Q) : tLockU t σ H Q := h
end
end RG

/-! what the program asks of data -/
namespace RG
open PySem PySem.Spec PyProof.Rows L2
def isIntB : PyData → Bool
  | .int _ => true
  | _ => false
def betB (d : PyData) (lo hi : Int) : Bool := match d with
  | .int i => decide (lo ≤ i) && decide (i ≤ hi)
  | _ => false
def nmB (x : Str) : Bool := decide (1 ≤ x.length) && decide (x.length ≤ 8) && ((x.cps.toList[0]?).any fun c => decide (c ∈ letC)) && x.cps.toList.all fun c => decide (c ∈ sigC)
def nameB : PyData → Bool
  | .str x => nmB x
  | _ => false
def arcL (h : Int) : List PyData → Bool
  | [a, b] => betB a 0 (h - 1) && betB b 1 h
  | _ => false
def arcB (h : Int) : PyData → Bool
  | .list ds => arcL h ds
  | .tuple ds => arcL h ds
  | _ => false
theorem arcL_len {h : Int} : ∀ {ds : List PyData}, ¬ ds.length = 2 → arcL h ds = false
  | [], _ => rfl
  | [_], _ => rfl
  | [_, _], n => absurd rfl n
  | _ :: _ :: _ :: _, _ => rfl
theorem arcB_of {h : Int} {d : PyData} {ds : List PyData} (e : d = .list ds ∨ d = .tuple ds) : arcB h d = arcL h ds := by rcases e with e | e <;> rw [e] <;> rfl
def arcsB (h : Int) : PyData → Bool
  | .dict ds => decide (ds.length ≤ 40) && ds.all fun p => nameB p.1 && arcB h p.2
  | _ => false
theorem nmB_ok {x : Str} (h : NameOk x) : nmB x = true := by
  obtain ⟨c, e, hc⟩ := h.first
  unfold nmB
  rw [e, decide_eq_true h.lo, decide_eq_true h.hi, Option.any_some, decide_eq_true hc, List.all_eq_true.mpr fun c hc => decide_eq_true (h.all c hc)]
  rfl
section
variable {X : Cx} {pos : Pos} {σ : L2.St} {H : Hp} {Q : VK} {v x y : V} {ta tb tc te : TE} {K : PySem.W.Frag}
theorem PG.or {e : Expr} {g g' : TG} (a : PG X e g) (b : PG X e g') : PG X e (fun v σ H Q => g v σ H Q ∨ g' v σ H Q) := ⟨fun pins s σ H v u Q I r h => h.elim (a.run pins s σ H v u Q I r) (b.run pins s σ H v u Q I r)⟩
/-- a, b = a list or a tuple -/
def gSeqN (K : PySem.W.Frag) (n : Nat) (t : TGs) : TG := fun v σ H Q => gTup K n t v σ H Q ∨ gLst K n t v σ H Q
theorem kgseq (K : PySem.W.Frag) {es : List Expr} {k : Nat} {t : TGs} {n : Nat} {pos : Pos} (hc : X.calm = true) (h : PGs X es t) (hn : (assignEach es X.env).length = n := by rfl) (hst : (assignEach es X.env).findIdx? (·.1) = none := by rfl)
    (hK : X.K = K := by rfl) : PG X (.Tuple es k pos) (gSeqN K n t) := by
  subst hK; exact PG.or (pg_tup hc h hn hst) (pg_lst hc h hn hst)
theorem s_gseq {a : Addr} {xs : List V} {n : Nat} {t : TGs} {R : L2.St → Hp → Prop} (h : SqL K H a xs ∨ SqT K H a xs) (hn : xs.length = n) (q : t xs σ H R) : gSeqN K n t (.ref a) σ H R :=
  h.elim (fun h => .inr ⟨a, xs, rfl, h, hn, q⟩) (fun h => .inl ⟨a, xs, rfl, h, hn, q⟩)
theorem s_chain {r r' : R2} (h : ta σ H fun x H1 => tb σ H1 fun y H2 => r x y H2 fun z H3 => ∃ k, z = .bl k ∧ (if k = true then tc σ H3 fun w' H4 => r' y w' H4 Q else Q (.bl false) H3)) : tChain r r' ta tb tc σ H Q := h
/-- len of a list or a tuple -/
theorem len_seq {p : Addr} {xs : List V} (h : SqL K H p xs ∨ SqT K H p xs) : LenV K (.ref p) H xs.length := h.elim len_l fun h => .inr ⟨xs, h, rfl⟩
end
theorem ite_nb {b : Bool} {A B : Prop} (h1 : b = false → A) (h2 : b = true → B) : if (!b) = true then A else B := by
  cases b with
  | true => exact ite_f rfl (h2 rfl)
  | false => exact ite_t rfl (h1 rfl)
/-- a list's or tuple's items -/
theorem Im.seq {K : PySem.W.Frag} {S : List Addr} {H : Hp} {v : V} {d : PyData} (hv : Im S H v d) (hL : (isListD d || isTupD d) = true) : ∃ a xs ds, v = .ref a ∧ (SqL K H a xs ∨ SqT K H a xs) ∧ a ∉ S ∧ ImAll S H xs ds ∧ (d = .list ds ∨ d = .tuple ds) := by
  cases hv with
  | @lst a xs ds na ra ia => exact ⟨a, xs, ds, rfl, .inl (.inl ra), na, ia, .inl rfl⟩
  | @tup a xs ds na ra ia => exact ⟨a, xs, ds, rfl, .inr (.inl ra), na, ia, .inr rfl⟩
  | _ => cases hL
end RG

/-! own methods: called by name, by len(), by in -/
namespace RG
open PySem PySem.Spec PyProof.Rows L2
/-- a method m of the class at C that keeps the promise sp, at level k -/
structure Mt (P : Program) (w : World) (K : PySem.W.Frag) (mg : Str → Option Value) (base : Heap) (C : Addr) (k : Nat) (m : Str) (ps : List Str) (sp : Sp) : Prop where
  ex : ∃ (f : Addr) (fd : FuncData), Cls K C ∧ Meth K C m f ∧ FnOk P w K mg base CX0 k f fd ps sp ∧ Binds K fd ps []
section
variable {X : Cx} {k j : Nat} {C : Addr} {x m : Str} {ps : List Str} {sp : Sp} {p pos apos : Pos} {e o : Expr} {es : List Expr} {ta : TE} {t : TA}
theorem pe_mm {pl : Sem Bool} (c : Mt X.prog X.w X.K X.mg X.base C j m ps sp) (hr : Room k X.A) (he : PE X o ta) (ha : PA X (e :: es) t) (hj : j ≤ k := by first | decide | omega)
    (hst : starEach (e :: es) X.env = (false, eval e X.env) :: starEach es X.env := by rfl) (hpl : (backTo pos (starEach es X.env)).any (·.1) = false := by rfl)
    (ht : eval (.Call (.Attribute o m apos) (e :: es) [] pos) X.env = (do
      let ov ← eval o X.env
      standAt apos.atName
      let (f, first) ← holding [ov] (getMethod ov m pl)
      callWith pos f first (backTo pos (starEach (e :: es) X.env)) (backToKw pos (keywordEach [] X.env))) := by rfl) :
    PE X (.Call (.Attribute o m apos) (e :: es) [] pos) (tMeth C m sp [] E0 ta t) := by
  obtain ⟨f, fd, hc, hm, F, b⟩ := c.ex
  exact pe_meth (pl := pl) he hc hm F (hr.mono hj) b .nil pass0 ha hst hpl ht
theorem pe_mm0 {pl : Sem Bool} (c : Mt X.prog X.w X.K X.mg X.base C j m ps sp) (hr : Room k X.A) (he : PE X o ta) (hj : j ≤ k := by first | decide | omega)
    (ht : eval (.Call (.Attribute o m apos) [] [] pos) X.env = (do
      let ov ← eval o X.env
      standAt apos.atName
      let (f, first) ← holding [ov] (getMethod ov m pl)
      callWith pos f first (backTo pos (starEach [] X.env)) (backToKw pos (keywordEach [] X.env))) := by rfl) :
    PE X (.Call (.Attribute o m apos) [] [] pos) (tMeth C m sp [] E0 ta tNil) := by
  obtain ⟨f, fd, hc, hm, F, b⟩ := c.ex
  exact pe_meth0 (pl := pl) he hc hm F (hr.mono hj) b .nil pass0 ht
theorem s_meth {σ : L2.St} {H : Hp} {Q : VK} {a dx : Addr} {fs : List (Str × V)} {v : V} (hv : v = .ref a) (e : H a = some (.ins C dx fs)) (l : fs.lookup m = none) (h : t σ H fun vs H2 => sp (.ref a :: (vs ++ [])) H2 Q E0) (ht : ∀ Q' : VK, Q' v H → ta σ H Q') : tMeth C m sp [] E0 ta t σ H Q :=
  ht _ ⟨a, dx, fs, hv, e, l, by rw [hv]; exact h⟩
/-- the callee's answer, below the running body -/
theorem own_call {pins : List (Addr × Obj)} {σ : L2.St} {H : Hp} {s : Shared} {A : Around} {f : Addr} {fd : FuncData} {us : List Value} {vs : List V} {Q : VK} {Q' : Value → Shared → Prop} (I : Inv X pins σ H s) (hA : A.frames = X.A.frames) (F : FnOk X.prog X.w X.K X.mg X.base CX0 k f fd ps sp) (hr : Room k A)
    (b : Binds X.K fd ps []) (r : Vals vs us) (h : sp vs H Q E0) (hq : ∀ u v s' H', Inv X pins σ H' s' → RelV v u → Q v H' → Q' u s') : wpAny (model X.prog X.w) A (call (.ref f) us) Q' X.xe s := by
  have hl : us.length = ps.length := by rw [← r.length]; exact F.len _ _ _ _ h
  have b1 := b s us I.kIn (by rw [List.append_nil]; exact hl)
  rw [List.append_nil] at b1
  have e0 : Env0 X.prog X.w X.K X.mg X.base A X.stack s H := by
    have e := I.env0
    exact ⟨by rw [hA]; exact e.frames, e.mod, e.bs, e.bsz, e.funs, e.frf, e.hok, e.bare⟩
  refine wpAny_call (codeAny_mono (F.run A X.stack s H ⟨us, []⟩ us vs Q E0 hr e0 b1 r h) fun r s' z => ?_)
  cases r with
  | error er => exact False.elim z
  | ok fl =>
    cases fl with
    | ret w =>
      obtain ⟨v, H', I', rv, q⟩ := I.after z
      exact hq _ _ _ _ I' rv q
    | next => exact False.elim z
    | brk => exact False.elim z
    | cont => exact False.elim z
/-- len(x), x an instance with its own __len__ -/
def rOwnLen (C : Addr) (sp : Sp) : List V → Hp → VK → Prop := fun xs H Q => ∃ (a dx : Addr) (fs : List (Str × V)), xs = [.ref a] ∧ H a = some (.ins C dx fs) ∧ sp [.ref a] H (fun v H' => ∃ n : Int, v = .int n ∧ (0 ≤ n ∧ n < 2 ^ 63) ∧ Q (.int n) H') E0
theorem call_ownLen (c : Mt X.prog X.w X.K X.mg X.base C j "__len__" ps sp) (hr : Room k X.A) (hj : j + 1 ≤ k := by first | decide | omega) : CallR X (.builtin "len") (rOwnLen C sp) := by
  intro pins s σ H xs us Q I r h
  obtain ⟨f, fd, hc, hm, F, b⟩ := c.ex
  obtain ⟨a, dx, fs, rfl, e, h⟩ := h
  obtain ⟨u, rfl, ru⟩ := vals1 r
  obtain rfl : u = Value.ref a := ru
  obtain ⟨mA, J, _⟩ := ins_get I.hok e
  obtain ⟨od, J, _⟩ := J.look
  obtain ⟨m, hF⟩ := I.fr
  refine PySem.W.len_K hF I.ok.mod.kin J hm.at_ hm.fn ?_
  refine own_call I (A := X.A.in1) rfl F ((hr.mono hj).in1) b r h fun u v s' H' I' rv ⟨n, ev, hn, q⟩ => ?_
  subst ev
  obtain ⟨t, rfl⟩ := rv
  exact ⟨hn, .int n, H', I'.tok _, ⟨_, rfl⟩, q⟩
/-- y in x, x an instance with its own __contains__ -/
def rOwnIn (neg : Bool) (C : Addr) (sp : Sp) : R2 := fun y x H Q => ∃ (a dx : Addr) (fs : List (Str × V)), x = .ref a ∧ H a = some (.ins C dx fs) ∧ sp [.ref a, y] H (fun v H' => ∃ b : Bool, v = .bl b ∧ Q (.bl (b != neg)) H') E0
theorem op_ownIn (c : Mt X.prog X.w X.K X.mg X.base C j "__contains__" ps sp) (hr : Room k X.A) (hj : j ≤ k := by first | decide | omega) : OpR X (compareOp .In) (rOwnIn false C sp) := by
  intro pins s σ H y x iv u Q I ry rx h
  obtain ⟨f, fd, hc, hm, F, b⟩ := c.ex
  obtain ⟨a, dx, fs, rfl, e, h⟩ := h
  obtain rfl : u = Value.ref a := rx
  obtain ⟨mA, J, _⟩ := ins_get I.hok e
  obtain ⟨od, J, _⟩ := J.look
  obtain ⟨m, hF⟩ := I.fr
  refine PySem.W.in_K hF I.ok.mod.kin J hm.at_ hm.fn ?_
  refine own_call I (A := X.A) rfl F (hr.mono hj) b (vs := [.ref a, y]) (.cons rfl (.cons ry .nil)) h fun u v s' H' I' rv ⟨bb, ev, q⟩ => ?_
  subst ev
  cases rv
  refine wpAny_truthy_bool ⟨.bl bb, H', I', rfl, ?_⟩
  rw [Bool.bne_false] at q
  exact q
theorem op_ownNotIn (c : Mt X.prog X.w X.K X.mg X.base C j "__contains__" ps sp) (hr : Room k X.A) (hj : j ≤ k := by first | decide | omega) : OpR X (compareOp .NotIn) (rOwnIn true C sp) := by
  intro pins s σ H y x iv u Q I ry rx h
  obtain ⟨f, fd, hc, hm, F, b⟩ := c.ex
  obtain ⟨a, dx, fs, rfl, e, h⟩ := h
  obtain rfl : u = Value.ref a := rx
  obtain ⟨mA, J, _⟩ := ins_get I.hok e
  obtain ⟨od, J, _⟩ := J.look
  obtain ⟨m, hF⟩ := I.fr
  refine PySem.W.notIn_K hF I.ok.mod.kin J hm.at_ hm.fn ?_
  refine own_call I (A := X.A) rfl F (hr.mono hj) b (vs := [.ref a, y]) (.cons rfl (.cons ry .nil)) h fun u v s' H' I' rv ⟨bb, ev, q⟩ => ?_
  subst ev
  cases rv
  refine wpAny_truthy_bool ⟨.bl (!bb), H', I', rfl, ?_⟩
  rw [Bool.bne_true] at q
  exact q
end
end RG

/-! a ring: an instance with its hours and a dict of its arcs -/
namespace RG
open PySem PySem.Spec PyProof.Rows L2
structure RingC (K : PySem.W.Frag) (mg : Str → Option Value) (C : Addr) : Prop where
  cls : Cls K C
  nh : NoAttr K C "own_hours"
  na : NoAttr K C "own_arcs"
section
variable {X : Cx} {o e value : Expr} {f : Str} {pos pos' : Pos} {ta tv te : TE} {σ : L2.St} {H : Hp} {Q : VK} {K : PySem.W.Frag} {v : V}
theorem kfld (K : PySem.W.Frag) (he : PE X e ta) (hb : attributeBase e f X.env (eval e X.env) = eval e X.env) (hK : X.K = K := by rfl) : PE X (.Attribute e f pos) (tFld K ta f) := by subst hK; exact pe_fld he hb
theorem kps_fld (K : PySem.W.Frag) (ha : PE X o ta) (hv : PE X value tv) (hs : swapsWith value (some (.Attribute o f pos')) pos.line X.env = pure false) (hK : X.K = K := by rfl) : PS X (.Assign [.Attribute o f pos'] value pos) (sFld K ta tv f) := by subst hK; exact ps_fld ha hv hs
theorem s_fld (h : ta σ H fun x H1 => ∃ a C dx fs v, x = .ref a ∧ H1 a = some (.ins C dx fs) ∧ Cls K C ∧ NoAttr K C f ∧ fs.lookup f = some v ∧ Q v H1) : tFld K ta f σ H Q := h
theorem s_sfld {D : Ends} (h : tv σ H fun y H1 => ta σ H1 fun x H2 => ∃ a C dx fs, x = .ref a ∧ H2 a = some (.ins C dx fs) ∧ Cls K C ∧ NoAttr K C f ∧ fs.length < 1000 ∧ D.nx σ (upd H2 a (.ins C dx (putF f y fs)))) : sFld K ta tv f D σ H := h
theorem s_methE {C : Addr} {m : Str} {sp : Sp} {t : TA} (h : ta σ H fun x H1 => ∃ a dx fs, x = .ref a ∧ H1 a = some (.ins C dx fs) ∧ fs.lookup m = none ∧ t σ H1 fun vs H2 => sp (x :: (vs ++ [])) H2 Q E0) : tMeth C m sp [] E0 ta t σ H Q := h
theorem s_make {C : Addr} {sp : Sp} {t : TA} (h : t σ H fun vs H1 => ∀ x dx, H1 x = none → H1 dx = none → dx ≠ x → sp (.ref x :: (vs ++ [])) (upd (upd H1 dx (.own x)) x (.ins C dx [])) (fun v H2 => v = .non ∧ Q (.ref x) H2) E0) : tMake C sp [] E0 t σ H Q := h
theorem s_dc {wi : TI} {g : TG} {tt : TT} {tk tv : TE} {vs : List Nat} (h : wi σ H fun J H1 => ∀ D, H1 D = none → ∃ W : Nat → Nat → Hp → Prop, (∃ m, W 0 m (upd H1 D (.dK []))) ∧ ∀ i m H, W i m H →
  (J.stop i H ∧ Q (.ref D) H) ∨ (J.go i H ∧ ∃ Nx : Hp → Prop, (∀ H', Nx H' → ∃ m', m' < m ∧ W (i + 1) m' H') ∧ ∀ x H', J.yld i H x H' → g x (wipe σ vs) H' fun σ2 H2 => wipe σ2 vs = wipe σ vs ∧ tt σ2 H2 fun b H3 =>
    if b = true then tk σ2 H3 fun y H4 => tv σ2 H4 fun z H5 => ∃ kvs k, y = kV k ∧ H5 D = some (.dK kvs) ∧ kvs.length < sizeLine ∧ Nx (upd H5 D (.dK (putK kvs k z))) else Nx H3)) : tDc wi g tt tk tv vs σ H Q := h
end
theorem dc_runs {J : It} {n : Nat} {G : Hp → Prop} {Y : Nat → Hp → V → Hp → Prop} {g : TG} {tt : TT} {tk tv : TE} {vs : List Nat} {σ : L2.St} {H1 : Hp} {D : Addr} {Qd : Hp → Prop} (r : Runs J n G Y) (Pv : Nat → Hp → Prop) (h0 : Pv 0 (upd H1 D (.dK []))) (hG : ∀ i H, Pv i H → G H)
    (hs : ∀ i H x H', i < n → Pv i H → Y i H x H' → g x (wipe σ vs) H' fun σ2 H2 => wipe σ2 vs = wipe σ vs ∧ tt σ2 H2 fun b H3 =>
      if b = true then tk σ2 H3 fun y H4 => tv σ2 H4 fun z H5 => ∃ kvs k, y = kV k ∧ H5 D = some (.dK kvs) ∧ kvs.length < sizeLine ∧ Pv (i + 1) (upd H5 D (.dK (putK kvs k z))) else Pv (i + 1) H3) (hd : ∀ H, Pv n H → Qd H) :
    ∃ W : Nat → Nat → Hp → Prop, (∃ m, W 0 m (upd H1 D (.dK []))) ∧ ∀ i m H, W i m H →
      (J.stop i H ∧ Qd H) ∨ (J.go i H ∧ ∃ Nx : Hp → Prop, (∀ H', Nx H' → ∃ m', m' < m ∧ W (i + 1) m' H') ∧ ∀ x H', J.yld i H x H' → g x (wipe σ vs) H' fun σ2 H2 => wipe σ2 vs = wipe σ vs ∧ tt σ2 H2 fun b H3 =>
        if b = true then tk σ2 H3 fun y H4 => tv σ2 H4 fun z H5 => ∃ kvs k, y = kV k ∧ H5 D = some (.dK kvs) ∧ kvs.length < sizeLine ∧ Nx (upd H5 D (.dK (putK kvs k z))) else Nx H3) := by
  refine ⟨fun i m H => m = n - i ∧ i ≤ n ∧ Pv i H, ⟨n, by simp, Nat.zero_le _, h0⟩, ?_⟩
  rintro i m H ⟨rfl, hi, p⟩
  have q := hG i H p
  by_cases hlt : i < n
  · exact .inr ⟨r.go i H q hlt, Pv (i + 1), fun H' p' => ⟨n - (i + 1), by omega, rfl, hlt, p'⟩, fun x H' y => hs i H x H' hlt p (r.yl i H x H' q hlt y)⟩
  · have e : i = n := by omega
    subst e
    exact .inl ⟨r.stop i H q (Nat.le_refl _), hd H p⟩
/-- the arc of a name -/
def arcOf (A : Arcs) (n : Str) : Int × Int := ((A.find? fun a => decide (a.1 = n)).map (·.2)).getD (0, 0)
theorem arcOf_mem : ∀ {A : Arcs} {a : Str × Int × Int}, (A.map (·.1)).Nodup → a ∈ A → arcOf A a.1 = a.2
  | x :: r, a, nd, h => by
    rw [List.map_cons, List.nodup_cons] at nd
    rcases List.mem_cons.mp h with e | h
    · subst e; simp [arcOf]
    · have hne : ¬ x.1 = a.1 := fun e => nd.1 (by rw [e]; exact List.mem_map_of_mem h)
      have ih := arcOf_mem nd.2 h
      unfold arcOf at ih ⊢
      rw [List.find?_cons, decide_eq_false hne]
      exact ih
theorem arcOf_perm {A B : Arcs} (nd : (A.map (·.1)).Nodup) (p : B.Perm A) {n : Str} (h : n ∈ A.map (·.1)) : arcOf B n = arcOf A n := by
  obtain ⟨a, ha, rfl⟩ := List.mem_map.mp h
  rw [arcOf_mem nd ha, arcOf_mem ((p.map _).nodup_iff.mpr nd) (p.mem_iff.mpr ha)]
/-- the arcs in the order of the names ys -/
def arcsBy (A : Arcs) (ys : List Str) : Arcs := ys.map fun n => (n, arcOf A n)
theorem arcsBy_names (A : Arcs) (ys : List Str) : (arcsBy A ys).map (·.1) = ys := by
  unfold arcsBy
  rw [List.map_map]
  show ys.map (fun n => n) = ys
  simp
theorem arcsBy_self {A : Arcs} (nd : (A.map (·.1)).Nodup) : arcsBy A (A.map (·.1)) = A := by
  unfold arcsBy
  rw [List.map_map]
  have : ∀ a ∈ A, ((fun n => (n, arcOf A n)) ∘ fun a : Str × Int × Int => a.1) a = a := fun a ha => by
    show (a.1, arcOf A a.1) = a
    rw [arcOf_mem nd ha]
  rw [List.map_congr_left this]
  simp
theorem arcsBy_perm {A : Arcs} {ys : List Str} (nd : (A.map (·.1)).Nodup) (p : ys.Perm (A.map (·.1))) : (arcsBy A ys).Perm A := by
  have := p.map (fun n => (n, arcOf A n))
  rw [show (A.map (·.1)).map (fun n => (n, arcOf A n)) = A from arcsBy_self nd] at this
  exact this
theorem ArcsOk.perm {h : Int} {A B : Arcs} (o : ArcsOk h A) (p : B.Perm A) : ArcsOk h B :=
  ⟨fun a ha => o.names a (p.mem_iff.mp ha), (p.map _).nodup_iff.mpr o.nd, fun a ha => o.st a (p.mem_iff.mp ha), fun a ha => o.ln a (p.mem_iff.mp ha)⟩
/-- arcs told loosely -/
theorem perm_kvsD {A : Arcs} {ds : List (PyData × PyData)} (p : ds.Perm (kvsD A)) : ∃ B : Arcs, B.Perm A ∧ ds = kvsD B := perm_of_map p
theorem lo_int {i : Int} {e : PyData} (h : Lo (.int i) e) : e = .int i := by cases h; rfl
theorem lo_arc {a : Int × Int} {e : PyData} (h : Lo (arcD a) e) : e = .list [.int a.1, .int a.2] ∨ e = .tuple [.int a.1, .int a.2] := by
  cases h with
  | tl al =>
    cases al with
    | cons h1 t => cases t with
      | cons h2 t2 => cases t2; rw [lo_int h1, lo_int h2]; exact .inl rfl
  | tt al =>
    cases al with
    | cons h1 t => cases t with
      | cons h2 t2 => cases t2; rw [lo_int h1, lo_int h2]; exact .inr rfl
  | leaf h1 h2 h3 => cases h3
theorem lo_arcs {A : Arcs} {d : PyData} (h : Lo (arcsD A) d) : ∃ (B : Arcs) (es : List (PyData × PyData)), B.Perm A ∧ d = .dict es ∧ LoKv (kvsD B) es := by
  cases h with
  | leaf h1 h2 h3 => cases h1
  | dct p l =>
    obtain ⟨B, pb, e⟩ := perm_kvsD p
    subst e
    exact ⟨B, _, pb, rfl, l⟩
theorem lokv_at : ∀ {B : Arcs} {es : List (PyData × PyData)}, LoKv (kvsD B) es → ∀ p ∈ es, ∃ a ∈ B, p.1 = .str a.1 ∧ (p.2 = .list [.int a.2.1, .int a.2.2] ∨ p.2 = .tuple [.int a.2.1, .int a.2.2])
  | [], _, h, p, hp => by cases h; simp at hp
  | b :: r, _, h, p, hp => by
    cases h with
    | cons h1 t =>
      rcases List.mem_cons.mp hp with e | hp
      · rw [e]; exact ⟨b, List.mem_cons_self, rfl, lo_arc h1⟩
      · obtain ⟨a, ha, q⟩ := lokv_at t p hp
        exact ⟨a, List.mem_cons_of_mem _ ha, q⟩
theorem LoKv.length : ∀ {ds es : List (PyData × PyData)}, LoKv ds es → es.length = ds.length
  | _, _, .nil => rfl
  | _, _, .cons _ t => by rw [List.length_cons, List.length_cons, LoKv.length t]
theorem kvsD_len (A : Arcs) : (kvsD A).length = A.length := by unfold kvsD; rw [List.length_map]
theorem nm_len {x : Str} (h : NameOk x) : x.length ≤ 1000 := by have := h.hi; omega
/-- such arcs are taken -/
theorem arcs_taken {h : Int} {A : Arcs} {d : PyData} (o : ArcsOk h A) (hl : A.length ≤ 40) (l : Lo (arcsD A) d) : arcsB h d = true := by
  obtain ⟨B, es, pb, rfl, lk⟩ := lo_arcs l
  have oB := o.perm pb
  have hle := lk.length
  rw [kvsD_len, pb.length_eq] at hle
  rw [arcsB, decide_eq_true (by omega), Bool.true_and, List.all_eq_true]
  intro p hp
  obtain ⟨a, ha, e1, e2⟩ := lokv_at lk p hp
  have s := oB.st a ha
  have n := oB.ln a ha
  have hv : arcL h [.int a.2.1, .int a.2.2] = true := by
    rw [arcL, betB, betB, decide_eq_true s.1, decide_eq_true (show a.2.1 ≤ h - 1 by omega), decide_eq_true n.1, decide_eq_true n.2]; rfl
  rw [e1, nameB, nmB_ok (oB.names a ha), Bool.true_and]
  rcases e2 with e | e <;> rw [e, arcB, hv]
theorem arcs_sm {h : Int} {A : Arcs} {d : PyData} (hh : h ≤ 100000) (o : ArcsOk h A) (hl : A.length ≤ 40) (l : Lo (arcsD A) d) : sm d = true := by
  obtain ⟨B, es, pb, rfl, lk⟩ := lo_arcs l
  have oB := o.perm pb
  have hle := lk.length
  rw [kvsD_len, pb.length_eq] at hle
  rw [sm, decide_eq_true (by omega), Bool.true_and]
  have hi : ∀ i : Int, 0 ≤ i → i ≤ 100000 → sm (.int i) = true := fun i h0 h1 => by rw [sm]; exact decide_eq_true (Nat.lt_of_le_of_lt (show i.natAbs ≤ 100000 by omega) (by decide))
  have key : ∀ es : List (PyData × PyData), (∀ p ∈ es, ∃ a ∈ B, p.1 = .str a.1 ∧ (p.2 = .list [.int a.2.1, .int a.2.2] ∨ p.2 = .tuple [.int a.2.1, .int a.2.2])) → smKv es = true := by
    intro es
    induction es with
    | nil => intro _; rfl
    | cons p r ih =>
      intro hk
      obtain ⟨a, ha, e1, e2⟩ := hk p List.mem_cons_self
      have s := oB.st a ha
      have n := oB.ln a ha
      obtain ⟨p1, p2⟩ := p
      dsimp only at e1 e2
      rw [smKv, ih fun q hq => hk q (List.mem_cons_of_mem _ hq), e1, sm, decide_eq_true (nm_len (oB.names a ha))]
      rcases e2 with e | e <;> rw [e, sm, smAll, smAll, smAll, hi _ s.1 (by omega), hi _ (by omega) (by omega)] <;> rfl
  exact key es (lokv_at lk)
theorem lk_h {x y : V} : List.lookup ("own_hours" : Str) [(("own_hours" : Str), x), (("own_arcs" : Str), y)] = some x := by
  rw [List.lookup, show (("own_hours" : Str) == ("own_hours" : Str)) = true by decide +kernel]
theorem lk_a {x y : V} : List.lookup ("own_arcs" : Str) [(("own_hours" : Str), x), (("own_arcs" : Str), y)] = some y := by
  rw [List.lookup, show (("own_arcs" : Str) == ("own_hours" : Str)) = false by decide +kernel, List.lookup, show (("own_arcs" : Str) == ("own_arcs" : Str)) = true by decide +kernel]
/-- no attribute of that name -/
theorem lk_no {m : Str} {x y : V} (h1 : (m == ("own_hours" : Str)) = false := by decide +kernel) (h2 : (m == ("own_arcs" : Str)) = false := by decide +kernel) : List.lookup m [(("own_hours" : Str), x), (("own_arcs" : Str), y)] = none := by
  rw [List.lookup, h1, List.lookup, h2, List.lookup]
theorem putF2 {x y : V} : putF "own_arcs" y (putF "own_hours" x []) = [(("own_hours" : Str), x), (("own_arcs" : Str), y)] := by
  rw [putF, putF, if_neg (by decide +kernel), putF]
/-- a dict of arcs, read by a name -/
theorem arcs_get {S : List Addr} {H : Hp} {A : Arcs} {kvs : List (Key × V)} (nd : (A.map (·.1)).Nodup) (ik : ImKv S H kvs (kvsD A)) {n : Str} (hn : n ∈ A.map (·.1)) : ∃ v, valV kvs (.inr n) = some v ∧ Im S H v (arcD (arcOf A n)) := by
  obtain ⟨a, ha, rfl⟩ := List.mem_map.mp hn
  obtain ⟨i, hi, e⟩ := List.mem_iff_getElem.mp ha
  have ndk : (kvs.map (·.1)).Nodup := by rw [kvs_keys ik]; exact inr_nodup nd
  have hl := ik.length
  rw [kvsD_len] at hl
  have hi2 : i < kvs.length := by omega
  obtain ⟨d, ed, im⟩ := ik.get (List.getElem?_eq_getElem hi2)
  have e2 : (kvsD A)[i]? = some (.str a.1, arcD a.2) := by
    unfold kvsD
    rw [List.getElem?_map, List.getElem?_eq_getElem hi, e]; rfl
  rw [e2] at ed
  injection ed with ed
  injection ed with ek ev
  have hk : kvs[i].1 = .inr a.1 := kD_inj (by rw [← ek]; rfl)
  refine ⟨kvs[i].2, valV_of ndk ?_, ?_⟩
  · rw [← hk]; exact List.getElem_mem hi2
  · rw [arcOf_mem nd ha, ev]; exact im
/-- arcs told loosely, read by a name -/
theorem lo_get {S : List Addr} {H : Hp} {B : Arcs} {es : List (PyData × PyData)} {kvs : List (Key × V)} (nd : (B.map (·.1)).Nodup) (lk : LoKv (kvsD B) es) (ik : ImKv S H kvs es) (ndk : (kvs.map (·.1)).Nodup) {n : Str} (hn : n ∈ B.map (·.1)) :
    ∃ v d, valV kvs (.inr n) = some v ∧ Im S H v d ∧ (d = .list [.int (arcOf B n).1, .int (arcOf B n).2] ∨ d = .tuple [.int (arcOf B n).1, .int (arcOf B n).2]) := by
  obtain ⟨a, ha, rfl⟩ := List.mem_map.mp hn
  have hk : PyData.str a.1 ∈ es.map (·.1) := by
    rw [lk.keys]
    exact List.mem_map.mpr ⟨(.str a.1, arcD a.2), List.mem_map.mpr ⟨a, ha, rfl⟩, rfl⟩
  obtain ⟨p, hp, ep⟩ := List.mem_map.mp hk
  obtain ⟨b, hb, e1, e2⟩ := lokv_at lk p hp
  rw [ep] at e1
  injection e1 with e1
  obtain ⟨i, hi, e⟩ := List.mem_iff_getElem.mp hp
  have hi2 : i < kvs.length := by rw [ik.length]; exact hi
  obtain ⟨d, ed, im⟩ := ik.get (List.getElem?_eq_getElem hi2)
  rw [List.getElem?_eq_getElem hi, e] at ed
  injection ed with ed
  rw [ed] at ep
  have hk : kvs[i].1 = .inr a.1 := kD_inj ep
  refine ⟨kvs[i].2, d, valV_of ndk ?_, im, ?_⟩
  · rw [← hk]; exact List.getElem_mem hi2
  · rw [show arcOf B a.1 = b.2 by rw [e1]; exact arcOf_mem nd hb]
    rw [ed] at e2
    exact e2
theorem Im.pairish {K : PySem.W.Frag} {S : List Addr} {H : Hp} {v : V} {d : PyData} {x y : Int} (h : Im S H v d) (e : d = .list [.int x, .int y] ∨ d = .tuple [.int x, .int y]) : ∃ p, v = .ref p ∧ p ∉ S ∧ (SqL K H p [.int x, .int y] ∨ SqT K H p [.int x, .int y]) := by
  rcases e with e | e
  · subst e
    cases h with
    | @lst p xs ds n r al =>
      have := al.ints_inv (ns := [x, y])
      subst this
      exact ⟨p, rfl, n, .inl (.inl r)⟩
  · subst e
    cases h with
    | @tup p xs ds n r al =>
      have := al.ints_inv (ns := [x, y])
      subst this
      exact ⟨p, rfl, n, .inr (.inl r)⟩
theorem s_ixq {K : PySem.W.Frag} {H : Hp} {Q : VK} {v : V} {p : Addr} {xs : List V} {i : Int} (hq : SqL K H p xs ∨ SqT K H p xs) (ha : atI xs i = some v) (h : Q v H) : rIx K (.ref p) (.int i) H Q :=
  hq.elim (fun hq => .inl ⟨p, xs, i, v, rfl, rfl, hq, ha, h⟩) (fun hq => .inr (.inl ⟨p, xs, i, v, rfl, rfl, hq, ha, h⟩))
theorem arcsBy_snoc {A : Arcs} {ys : List Str} {i : Nat} (hi : i < ys.length) : arcsBy A (ys.take (i + 1)) = arcsBy A (ys.take i) ++ [(ys[i], arcOf A ys[i])] := by
  unfold arcsBy
  rw [List.take_add_one, List.getElem?_eq_getElem hi, List.map_append]; rfl
theorem take_new {ys : List Str} (nd : ys.Nodup) {i : Nat} (hi : i < ys.length) : ys[i] ∉ ys.take i := fun h => by
  obtain ⟨j, hj, e⟩ := List.mem_iff_getElem.mp h
  rw [List.length_take] at hj
  rw [List.getElem_take] at e
  have := (List.nodup_iff_pairwise_ne.mp nd)
  rw [List.pairwise_iff_getElem] at this
  exact this j i (by omega) hi (by omega) e
/-- two pairs of ints, compared -/
def rPairs (K : PySem.W.Frag) (neg : Bool) : R2 := fun x y H Q => ∃ (a b : Addr) (i j k l : Int), x = .ref a ∧ y = .ref b ∧ SqT K H a [.int i, .int j] ∧ SqT K H b [.int k, .int l] ∧ Q (.bl (decide ((i, j) = (k, l)) != neg)) H
theorem pair_eqv (i j k l : Int) : PyData.eqv (.tuple [.int i, .int j]) (.tuple [.int k, .int l]) = decide ((i, j) = (k, l)) := by
  rw [PyData.eqv, PyData.eqvAll, PyData.eqvAll, PyData.eqvAll, PyData.eqv, PyData.eqv, Bool.and_true]
  by_cases h1 : i = k
  · by_cases h2 : j = l
    · subst h1; subst h2; simp
    · subst h1; simp [h2]
  · simp [h1]
theorem pair_shaped (i j : Int) : SeqAt.shaped (.tuple [.int i, .int j]) = true := by
  rfl
theorem keqPair (K : PySem.W.Frag) {X : Cx} {k : Nat} (hr : Room k X.A) (hK : X.K = K := by rfl) : OpR X (compareOp .Eq) (rPairs K false) := by
  subst hK
  intro pins s σ H x y v u Q I rx ry h
  obtain ⟨a, b, i, j, k, l, rfl, rfl, h1, h2, q⟩ := h
  refine op_eqD (by have := hr.un; omega) pins s σ H _ _ v u Q I rx ry ⟨.tuple [.int i, .int j], .tuple [.int k, .int l], .tup h1 (.cons (.int i) (.cons (.int j) .nil)), .tup h2 (.cons (.int k) (.cons (.int l) .nil)), pair_shaped i j, pair_shaped k l, ?_⟩
  rw [pair_eqv]
  rw [Bool.bne_false] at q
  exact q
theorem knePair (K : PySem.W.Frag) {X : Cx} {k : Nat} (hr : Room k X.A) (hK : X.K = K := by rfl) : OpR X (compareOp .NotEq) (rPairs K true) := by
  subst hK
  intro pins s σ H x y v u Q I rx ry h
  obtain ⟨a, b, i, j, k, l, rfl, rfl, h1, h2, q⟩ := h
  refine op_neD (by have := hr.un; omega) pins s σ H _ _ v u Q I rx ry ⟨.tuple [.int i, .int j], .tuple [.int k, .int l], .tup h1 (.cons (.int i) (.cons (.int j) .nil)), .tup h2 (.cons (.int k) (.cons (.int l) .nil)), pair_shaped i j, pair_shaped k l, ?_⟩
  rw [pair_eqv]
  rw [Bool.bne_true] at q
  exact q
/-- whether a text is one of the names -/
theorem has_key {S : List Addr} {H : Hp} {A : Arcs} {kvs : List (Key × V)} (ik : ImKv S H kvs (kvsD A)) (x : Str) : (valV kvs (.inr x)).isSome = decide (x ∈ A.map (·.1)) := by
  rw [← valV_any]
  have e := kvs_keys ik
  by_cases h : x ∈ A.map (·.1)
  · rw [decide_eq_true h, List.any_eq_true]
    have : (Sum.inr x : Key) ∈ kvs.map (·.1) := by rw [e]; exact List.mem_map_of_mem h
    obtain ⟨p, hp, ep⟩ := List.mem_map.mp this
    exact ⟨p, hp, decide_eq_true ep⟩
  · rw [decide_eq_false h, List.any_eq_false]
    intro p hp z
    have ep := of_decide_eq_true z
    have : (Sum.inr x : Key) ∈ kvs.map (·.1) := by rw [← ep]; exact List.mem_map_of_mem hp
    rw [e] at this
    obtain ⟨y, hy, ey⟩ := List.mem_map.mp this
    injection ey with ey
    rw [ey] at hy
    exact h hy
/-- at a: a ring of the class at C with these hours and arcs -/
def RingR (S : List Addr) (H : Hp) (C a : Addr) (h : Int) (A : Arcs) : Prop := a ∉ S ∧ ∃ dx d : Addr, H a = some (.ins C dx [("own_hours", .int h), ("own_arcs", .ref d)]) ∧ Im S H (.ref d) (arcsD A)
theorem RingR.nx {S : List Addr} {H H' : Hp} {C a : Addr} {h : Int} {A : Arcs} (g : Nx S H H') (r : RingR S H C a h A) : RingR S H' C a h A := by
  obtain ⟨n, dx, d, e, i⟩ := r
  exact ⟨n, dx, d, g.kp a _ n e, i.nx g⟩
theorem RingR.al {S : List Addr} {H : Hp} {C a : Addr} {h : Int} {A : Arcs} (r : RingR S H C a h A) : H a ≠ none := by
  obtain ⟨n, dx, d, e, i⟩ := r
  rw [e]; simp
theorem RingR.sub {S T : List Addr} {H : Hp} {C a : Addr} {h : Int} {A : Arcs} (g : ∀ x ∈ T, x ∈ S ∨ H x = none) (r : RingR S H C a h A) : RingR T H C a h A := by
  have ra := r.al
  obtain ⟨n, dx, d, e, i⟩ := r
  exact ⟨fun z => (g a z).elim n ra, dx, d, e, Im.sub g _ i⟩
/-- an older ring, after a new object at D -/
theorem RingR.over {S : List Addr} {H H' : Hp} {C a D : Addr} {h : Int} {A : Arcs} (n : H D = none) (g : Nx (D :: S) H H') (r : RingR S H C a h A) : RingR (D :: S) H' C a h A :=
  (r.sub (fun x hx => (List.mem_cons.mp hx).elim (fun z => .inr (by rw [z]; exact n)) .inl)).nx g
end RG

/-! what a map of rings is, in plain words -/
namespace RG
open PySem PySem.Spec PyProof.Rows L2
def lookD : List (PyData × PyData) → Str → Option PyData
  | [], _ => none
  | (.str x, v) :: r, n => if x = n then some v else lookD r n
  | (.none, _) :: r, n => lookD r n
  | (.bool _, _) :: r, n => lookD r n
  | (.int _, _) :: r, n => lookD r n
  | (.list _, _) :: r, n => lookD r n
  | (.tuple _, _) :: r, n => lookD r n
  | (.dict _, _) :: r, n => lookD r n
/-- the text that stands for a name, if it is one -/
def imgD (ds : List (PyData × PyData)) (n : Str) : Option Str := match lookD ds n with
  | some (.str m) => some m
  | _ => none
def stepB (h : Int) (A B : Arcs) (turn : Int) (ds : List (PyData × PyData)) (n : Str) : Bool := match imgD ds n with
  | some m => decide (m ∈ B.map (·.1)) && decide (arcOf B m = (((arcOf A n).1 + turn) % h, (arcOf A n).2))
  | none => false
def isMapB (h : Int) (A : Arcs) (h2 : Int) (B : Arcs) (turn : Int) : PyData → Bool
  | .dict ds => decide (ds.length = A.length) && (decide (A.length = B.length) && decide (h = h2)) && ((A.map (·.1)).all (stepB h A B turn ds) && decide ((A.map (·.1)).map (imgD ds)).Nodup)
  | _ => false
theorem look_im {S : List Addr} {H : Hp} {n : Str} : ∀ {kvs : List (Key × V)} {ds : List (PyData × PyData)}, ImKv S H kvs ds → (valV kvs (.inr n) = none ∧ lookD ds n = none) ∨ ∃ v d, valV kvs (.inr n) = some v ∧ lookD ds n = some d ∧ Im S H v d
  | _, _, .nil => .inl ⟨valV_nil, rfl⟩
  | _, _, .cons (k := k) (v := v) (d := d) a t => by
    cases k with
    | inl i =>
      have ih := look_im (n := n) t
      rw [valV_neg (by intro z; cases z)]
      exact ih
    | inr x =>
      by_cases e : x = n
      · subst e
        exact .inr ⟨v, d, valV_pos rfl, if_pos rfl, a⟩
      · have ih := look_im (n := n) t
        rw [valV_neg (by intro z; injection z with z; exact e z)]
        show (_ ∧ (if x = n then some d else lookD _ n) = none) ∨ ∃ v' d', _ ∧ (if x = n then some d else lookD _ n) = some d' ∧ _
        rw [if_neg e]
        exact ih
theorem key_in {kv : List (Key × V)} {ms : List Str} (e : kv.map (·.1) = ms.map Sum.inr) (x : Str) : (valV kv (.inr x)).isSome = decide (x ∈ ms) := by
  rw [← valV_any]
  by_cases h : x ∈ ms
  · rw [decide_eq_true h, List.any_eq_true]
    have : (Sum.inr x : Key) ∈ kv.map (·.1) := by rw [e]; exact List.mem_map_of_mem h
    obtain ⟨p, hp, ep⟩ := List.mem_map.mp this
    exact ⟨p, hp, decide_eq_true ep⟩
  · rw [decide_eq_false h, List.any_eq_false]
    intro p hp z
    have ep := of_decide_eq_true z
    have : (Sum.inr x : Key) ∈ kv.map (·.1) := by rw [← ep]; exact List.mem_map_of_mem hp
    rw [e] at this
    obtain ⟨y, hy, ey⟩ := List.mem_map.mp this
    injection ey with ey
    rw [ey] at hy
    exact h hy
theorem all_perm {α : Type} {p : α → Bool} {xs ys : List α} (h : xs.Perm ys) : xs.all p = ys.all p := by
  rw [Bool.eq_iff_iff, List.all_eq_true, List.all_eq_true]
  exact ⟨fun a x hx => a x (h.mem_iff.mpr hx), fun a x hx => a x (h.mem_iff.mp hx)⟩
/-- by another order of the names -/
theorem isMap_by {h : Int} {A : Arcs} {h2 : Int} {B : Arcs} {turn : Int} {ds : List (PyData × PyData)} {ys : List Str} (p : ys.Perm (A.map (·.1))) :
    isMapB h A h2 B turn (.dict ds) = (decide (ds.length = A.length) && (decide (A.length = B.length) && decide (h = h2)) && (ys.all (stepB h A B turn ds) && decide (ys.map (imgD ds)).Nodup)) := by
  rw [isMapB, ← all_perm p, decide_eq_decide.mpr (p.map (imgD ds)).nodup_iff.symm]
def hasImg (B : Arcs) (ds : List (PyData × PyData)) (n : Str) : Bool := match imgD ds n with
  | some m => decide (m ∈ B.map (·.1))
  | none => false
def arcFits (h : Int) (A B : Arcs) (turn : Int) (ds : List (PyData × PyData)) (n : Str) : Bool := match imgD ds n with
  | some m => decide (arcOf B m = (((arcOf A n).1 + turn) % h, (arcOf A n).2))
  | none => false
theorem step_two (h : Int) (A B : Arcs) (turn : Int) (ds : List (PyData × PyData)) (n : Str) : stepB h A B turn ds n = (hasImg B ds n && arcFits h A B turn ds n) := by
  unfold stepB hasImg arcFits
  cases imgD ds n <;> rfl
theorem all_and {α : Type} (p q : α → Bool) (xs : List α) : xs.all (fun x => p x && q x) = (xs.all p && xs.all q) := by
  induction xs with
  | nil => rfl
  | cons x r ih =>
    rw [List.all_cons, List.all_cons, List.all_cons, ih]
    cases p x <;> cases q x <;> cases r.all p <;> simp
theorem isMap_two {h : Int} {A B : Arcs} {turn : Int} {ds : List (PyData × PyData)} : isMapB h A h B turn (.dict ds) =
    (decide (ds.length = A.length) && (decide (A.length = B.length)) && ((A.map (·.1)).all (hasImg B ds) && (A.map (·.1)).all (arcFits h A B turn ds) && decide ((A.map (·.1)).map (imgD ds)).Nodup)) := by
  rw [isMapB, decide_eq_true (rfl : h = h), Bool.and_true, ← all_and, show (stepB h A B turn ds) = (fun x => hasImg B ds x && arcFits h A B turn ds x) from funext fun n => step_two h A B turn ds n]
/-- one name fails -/
theorem map_step {h : Int} {A B : Arcs} {turn : Int} {ds : List (PyData × PyData)} {ys : List Str} {n : Str} (hn : n ∈ ys) (hs : stepB h A B turn ds n = false) : ys.all (stepB h A B turn ds) = false := by
  rw [List.all_eq_false]
  exact ⟨n, hn, by rw [hs]; decide⟩
/-- two names have one image -/
theorem map_twice {ds : List (PyData × PyData)} {ys : List Str} {i : Nat} (hi : i < ys.length) {m : Str} (e : imgD ds ys[i] = some m) (h : some m ∈ (ys.take i).map (imgD ds)) : ¬ (ys.map (imgD ds)).Nodup := by
  intro nd
  have h1 : ys.map (imgD ds) = (ys.take i).map (imgD ds) ++ (ys.drop i).map (imgD ds) := by rw [← List.map_append, List.take_append_drop]
  rw [h1] at nd
  refine (List.nodup_append.mp nd).2.2 _ h _ ?_ rfl
  rw [← e]
  refine List.mem_map_of_mem ?_
  rw [List.drop_eq_getElem_cons hi]
  exact List.mem_cons_self
end RG

/-! comprehensions that make data -/
namespace RG
open PySem PySem.Spec PyProof.Rows L2
theorem lc_data {J : It} {n : Nat} {G : Hp → Prop} {Y : Nat → Hp → V → Hp → Prop} {g : TG} {te : TE} {vs : List Nat} {σ : L2.St} {H1 : Hp} {D : Addr} {S T : List Addr} {Qd : Hp → Prop} (r : Runs J n G Y) (hn : n ≤ 100000) (nD : H1 D = none) (al : Al S H1) (hT : ∀ x ∈ T, x ∈ S)
    (P : Nat → Hp → Prop) (hP0 : P 0 H1) (hPw : ∀ i H o, P i H → P i (upd H D o)) (f : Nat → PyData → Prop) (hG : ∀ H', Nx (D :: T) H1 H' → G H')
    (hs : ∀ i H x H', i < n → Nx (D :: T) H1 H → Al (D :: S) H → P i H → Y i H x H' → g x (wipe σ vs) H' fun σ2 H2 => wipe σ2 vs = wipe σ vs ∧ ∀ Q' : VK, (∀ y d H3, f i d → Im (D :: S) H3 y d → Nx T H H3 → P (i + 1) H3 → Q' y H3) → te σ2 H2 Q')
    (hd : ∀ H acc ds, H D = some (.lst acc) → ds.length = n → (∀ i, i < n → ∃ d, ds[i]? = some d ∧ f i d) → ImAll (D :: S) H acc ds → Nx T H1 H → P n H → Qd H) (hmono : ∀ x σ H Q Q', (∀ σ2 H2, Q σ2 H2 → Q' σ2 H2) → g x σ H Q → g x σ H Q') :
    ∃ W : Nat → Nat → Hp → Prop, (∃ m, W 0 m (upd H1 D (.lst []))) ∧ ∀ i m H, W i m H →
      (J.stop i H ∧ Qd H) ∨ (J.go i H ∧ ∃ Nx : Hp → Prop, (∀ H', Nx H' → ∃ m', m' < m ∧ W (i + 1) m' H') ∧ ∀ x H', J.yld i H x H' → g x (wipe σ vs) H' fun σ2 H2 => wipe σ2 vs = wipe σ vs ∧ tYes σ2 H2 fun b H3 =>
        if b = true then te σ2 H3 fun y H4 => ∃ acc, H4 D = some (.lst acc) ∧ acc.length < sizeLine ∧ Nx (upd H4 D (.lst (acc ++ [y]))) else Nx H3) := by
  have hDT : D ∉ T := fun z => al.ne nD (hT D z)
  refine lc_runs r (fun i H' => ∃ acc ds, H' D = some (.lst acc) ∧ ds.length = i ∧ (∀ j, j < i → ∃ d, ds[j]? = some d ∧ f j d) ∧ ImAll (D :: S) H' acc ds ∧ Nx (D :: T) H1 H' ∧ P i H')
    ⟨[], [], upd_same, rfl, fun j z => absurd z (Nat.not_lt_zero _), .nil, .put List.mem_cons_self, hPw _ _ _ hP0⟩ (fun i H' => fun ⟨_, _, _, _, _, _, g, _⟩ => hG H' g) ?_ ?_
  · rintro i H x H' hi ⟨acc, ds, eD, hl, hf, im, gx, hp⟩ y
    have alD : Al (D :: S) H := (al.mono gx).cons eD
    refine hmono _ _ _ _ _ (fun σ2 H2 ⟨h1, h2⟩ => ⟨h1, s_yes ?_⟩) (hs i H x H' hi gx alD hp y)
    rw [if_pos rfl]
    refine h2 _ fun y d H3 fd imd g3 p3 => ?_
    have eD3 : H3 D = some (.lst acc) := g3.kp D _ hDT eD
    have hTS : ∀ x ∈ D :: T, x ∈ D :: S := fun x hx => (List.mem_cons.mp hx).elim (fun z => by rw [z]; exact List.mem_cons_self) (fun z => List.mem_cons_of_mem _ (hT x z))
    have g4 : Nx (D :: T) H (upd H3 D (.lst (acc ++ [y]))) := (g3.mono (fun x hx => List.mem_cons_of_mem _ hx)).putP List.mem_cons_self
    refine ⟨acc, eD3, ?_, acc ++ [y], ds ++ [d], upd_same, by rw [List.length_append, hl]; rfl, fun j hj => ?_, ?_, gx.trans g4, hPw _ _ _ p3⟩
    · rw [im.length, hl]; exact Nat.lt_of_lt_of_le (show i < 100000 by omega) (by decide)
    · by_cases hji : j < i
      · obtain ⟨d', e, q⟩ := hf j hji
        exact ⟨d', by rw [List.getElem?_append_left (by omega)]; exact e, q⟩
      · have : j = i := by omega
        subst this
        exact ⟨d, by rw [List.getElem?_append_right (by omega), hl]; simp, fd⟩
    · exact (im.nx (g4.mono hTS)).snoc (imd.nx (.put List.mem_cons_self))
  · rintro H ⟨acc, ds, eD, hl, hf, im, gx, hp⟩
    exact hd H acc ds eD hl hf im (gx.drop nD) hp
theorem gName_mono {i : Nat} (x : V) (σ : L2.St) (H : Hp) (Q Q' : L2.St → Hp → Prop) (h : ∀ σ2 H2, Q σ2 H2 → Q' σ2 H2) (q : gName i x σ H Q) : gName i x σ H Q' := h _ _ q
/-- as before, but for a lock on a -/
structure Nl (a : Addr) (H H' : Hp) : Prop where
  rx : Rx [] H H'
  kp : ∀ b o, b ≠ a → H b = some o → H' b = some o
  th : ∀ b, H b ≠ none → H' b ≠ none
theorem Nl.nx {a : Addr} {H H1 H2 : Hp} (l : Nl a H H1) (g : Nx [] H1 H2) : Nl a H H2 := ⟨l.rx.trans g.rx, fun b o hb e => g.kp b o (by simp) (l.kp b o hb e), fun b h => g.th b (l.th b h)⟩
theorem Nl.fresh {a : Addr} {H H' : Hp} (g : Nl a H H') {p : Addr} (h : H' p = none) : H p = none := by
  cases e : H p with
  | none => rfl
  | some o => exact absurd h (g.th p (by rw [e]; simp))
theorem Nl.of {a : Addr} {H H1 : Hp} (gx : Rx [] H H1) (gb : ∀ b, b ≠ a → H1 b = H b) {u : HO} (ra : H1 a = some u) : Nl a H H1 := ⟨gx, fun b o hb e => by rw [gb b hb]; exact e, fun b h => by
  by_cases e : b = a
  · rw [e, ra]; simp
  · rw [gb b e]; exact h⟩
/-- [e for name in d], e data, no draws -/
theorem lc_keysD {k : Nat} {te : TE} {σ : L2.St} {H : Hp} {a : Addr} {td : TE} {kvs : List (Key × V)} {S : List Addr} {Q : VK} (ra : Rd H a (.dK kvs)) (al : Al S H) (hn : kvs.length ≤ 100000) (hw : ∀ x, wipe ((wipe σ [k]).set k (some x)) [k] = wipe σ [k])
    (htd : ∀ (H' : Hp) (Q : VK), Q (.ref a) H' → td σ H' Q) (f : Nat → PyData)
    (hs : ∀ i key v D H' (Q' : VK), kvs[i]? = some (key, v) → Nl a H H' → H D = none → Al (D :: S) H' → (∀ y H3, Im (D :: S) H3 y (f i) → Nx [] H' H3 → Q' y H3) → te ((wipe σ [k]).set k (some (kV key))) H' Q')
    (q : ∀ D acc ds H', H D = none → H' D = some (.lst acc) → ds.length = kvs.length → (∀ i, i < kvs.length → ds[i]? = some (f i)) → ImAll (D :: S) H' acc ds → Nx [] H H' → Q (.ref D) H') :
    tLockU (tLc (iKeys td) (gName k) tYes te [k]) σ H Q := by
  refine lock_e ra (fun H1 od R gx gb e1 hR => s_lc (s_ikeys (htd _ _ ⟨a, od, rfl, .inl ⟨kvs, e1, fun D nD => ?_⟩⟩)))
  have l1 : Nl a H H1 := .of gx gb e1
  have hDa : D ≠ a := fun z => by rw [z, e1] at nD; cases nD
  have nD0 : H D = none := l1.fresh nD
  have al1 : Al S H1 := fun x hx => l1.th x (al x hx)
  refine lc_data (T := []) (S := S) runs_keys hn nD al1 (by simp) (fun _ _ => True) trivial (fun _ _ _ _ => trivial) (fun i d => d = f i) (fun H' g => g.kp a _ (by simpa using hDa.symm) e1) ?_ ?_ gName_mono
  · rintro i Hx x H' hi g4 alD - ⟨e, key, v, ek, rfl⟩
    subst e
    refine ⟨hw _, fun Q' hq => hs i key v D H' Q' ek (l1.nx (g4.drop nD)) nD0 alD fun y H3 im g3 => hq y _ H3 rfl im g3 trivial⟩
  · rintro H' acc ds eD hl hf im g -
    have eL : H' a = some (.frz od (.dK kvs)) := g.kp a _ (by simp) e1
    refine hR _ _ eL fun H2 gx2 gb2 e2 => ?_
    refine q D acc ds H2 nD0 (by rw [gb2 D hDa]; exact eD) hl (fun i hi => by obtain ⟨d, ed, rfl⟩ := hf i hi; exact ed) (ImAll.rx gx2.mono0 _ im) ⟨fun c o _ h => ?_, fun c h => ?_⟩
    · by_cases hc : c = a
      · rw [hc, e2, ← hc]; exact h
      · rw [gb2 c hc]; exact g.kp c o (by simp) (l1.kp c o hc h)
    · by_cases hc : c = a
      · rw [hc, e2, ← hc]; exact h
      · rw [gb2 c hc]; exact g.th c (l1.th c h)
theorem ImAll.bools_inv {S : List Addr} {H : Hp} : ∀ {bs : List Bool} {vs : List V}, ImAll S H vs (bs.map PyData.bool) → vs = bs.map V.bl
  | [], _, .nil => rfl
  | b :: r, _, .cons a t => by cases a; rw [List.map_cons, ImAll.bools_inv t]
theorem arcs_at {S : List Addr} {H : Hp} {A : Arcs} {kvs : List (Key × V)} (ik : ImKv S H kvs (kvsD A)) {i : Nat} {key : Key} {v : V} (e : kvs[i]? = some (key, v)) : ∃ a, A[i]? = some a ∧ key = .inr a.1 ∧ Im S H v (arcD a.2) := by
  obtain ⟨d, ed, im⟩ := ik.get e
  unfold kvsD at ed
  rw [List.getElem?_map] at ed
  cases h : A[i]? with
  | none => rw [h] at ed; cases ed
  | some a =>
    rw [h] at ed
    injection ed with ed
    injection ed with e1 e2
    refine ⟨a, rfl, kD_inj e1.symm, ?_⟩
    rw [← e2] at im
    exact im
theorem merge_le : ∀ (more acc : List (Key × V)), (mergeK acc more).length ≤ acc.length + more.length
  | [], acc => by simp [mergeK]
  | (k, v) :: r, acc => by
    have h := merge_le r (putK acc k v)
    show (mergeK (putK acc k v) r).length ≤ _
    have : (putK acc k v).length ≤ acc.length + 1 := by
      unfold putK
      split <;> simp
    rw [List.length_cons]; omega
/-- a key twice: fewer entries -/
theorem merge_lt : ∀ (more acc : List (Key × V)), (acc.map (·.1)).Nodup → ¬ ((acc ++ more).map (·.1)).Nodup → (mergeK acc more).length < acc.length + more.length
  | [], acc, h1, h2 => absurd (by rw [List.append_nil]; exact h1) h2
  | (k, v) :: r, acc, h1, h2 => by
    show (mergeK (putK acc k v) r).length < _
    by_cases hk : k ∈ acc.map (·.1)
    · have h := merge_le r (putK acc k v)
      have e : (putK acc k v).length = acc.length := by
        unfold putK
        rw [if_pos]
        · simp
        · obtain ⟨p, hp, e⟩ := List.mem_map.mp hk
          exact List.any_eq_true.mpr ⟨p, hp, decide_eq_true e⟩
      rw [List.length_cons]; omega
    · rw [putK_new hk]
      have h := merge_lt r (acc ++ [(k, v)]) (by
        rw [List.map_append]
        exact List.nodup_append.mpr ⟨h1, by simp, fun x hx y hy z => hk (by
          have hy' : y = k := by simpa using hy
          rw [← hy', ← z]; exact hx)⟩) (by rw [List.append_assoc]; exact h2)
      rw [List.length_append] at h
      rw [List.length_cons]
      simp only [List.length_cons, List.length_nil] at h
      omega
/-- a list by its items -/
theorem list_by {α : Type} {ds : List α} {n : Nat} {f : Nat → α} (hl : ds.length = n) (h : ∀ i, i < n → ds[i]? = some (f i)) : ds = (List.range n).map f := by
  refine List.ext_getElem? fun i => ?_
  by_cases hi : i < n
  · rw [h i hi, List.getElem?_map, List.getElem?_range hi]; rfl
  · rw [List.getElem?_eq_none (by omega), List.getElem?_eq_none (by simpa using hi)]
theorem map_by {α β : Type} {xs : List α} {n : Nat} (hl : xs.length = n) (g : α → β) (f : Nat → β) (h : ∀ i x, xs[i]? = some x → f i = g x) : (List.range n).map f = xs.map g := by
  refine List.ext_getElem? fun i => ?_
  by_cases hi : i < n
  · rw [List.getElem?_map, List.getElem?_range hi, List.getElem?_map, List.getElem?_eq_getElem (by omega)]
    show some (f i) = some (g _)
    rw [h i _ (List.getElem?_eq_getElem (by omega))]
  · rw [List.getElem?_eq_none (by simpa using hi), List.getElem?_eq_none (by simp; omega)]
theorem nodup_inj {α β : Type} {f : α → β} (hf : ∀ a b, f a = f b → a = b) {xs : List α} : (xs.map f).Nodup ↔ xs.Nodup := by
  rw [List.nodup_iff_pairwise_ne, List.nodup_iff_pairwise_ne, List.pairwise_map]
  exact ⟨fun h => h.imp fun {a b} hab (z : a = b) => hab (by rw [z]), fun h => h.imp fun {a b} hab (z : f a = f b) => hab (hf a b z)⟩
/-- the i-th name -/
def nmAt (A : Arcs) (i : Nat) : Str := (A.map (·.1)).getD i (Str.ofString "")
theorem nmAt_of {A : Arcs} {i : Nat} {x : Str × Int × Int} (e : A[i]? = some x) : nmAt A i = x.1 := by
  unfold nmAt
  rw [List.getD_eq_getElem?_getD, List.getElem?_map, e]; rfl
/-- made by index, told by name -/
theorem by_names {β : Type} {A : Arcs} {ds : List β} {F : Str → β} {n : Nat} (hn : n = A.length) (hl : ds.length = n) (h : ∀ i, i < n → ds[i]? = some (F (nmAt A i))) : ds = (A.map (·.1)).map F := by
  rw [list_by hl h]
  refine map_by (by rw [List.length_map]; omega) F _ fun i x e => ?_
  rw [List.getElem?_map] at e
  cases ha : A[i]? with
  | none => rw [ha] at e; cases e
  | some a =>
    rw [ha] at e
    cases e
    rw [nmAt_of ha]
end RG

/-! dict(zip(texts, values)) -/
namespace RG
open PySem PySem.Spec PyProof.Rows L2
theorem kv_zip : ∀ {xs : List Str} {ys : List V} {us : List Value}, Vals ys us → KV ((xs.map (Sum.inr : Str → Key)).zip ys) ((xs.map (Sum.inr : Str → Key)).zip us)
  | [], _, _, _ => .nil
  | _ :: _, _, _, .nil => .nil
  | x :: r, _, _, .cons h t => .cons ⟨rfl, h⟩ (kv_zip (xs := r) t)
section
variable {X : Cx} {e e2 : Expr} {ta : TA} {p p2 pos pos2 : Pos}
def tDictZip (K : PySem.W.Frag) (ta : TA) : TE := fun σ H Q => ta σ H fun vs H1 => ∃ (a b : Addr) (xs : List Str) (ys : List V), vs = [.ref a, .ref b] ∧ SqL K H1 a (xs.map V.str) ∧ SqL K H1 b ys ∧ xs.length = ys.length ∧
  ∀ p, H1 p = none → Q (.ref p) (upd H1 p (.dK (mergeK [] ((xs.map Sum.inr).zip ys))))
theorem pe_dictzip (K : PySem.W.Frag) (hc : X.calm = true) (hg : Gl X "dict") (hm : X.mg "dict" = none) (hg2 : Gl X "zip") (hm2 : X.mg "zip" = none) (ha : PA X [e, e2] ta)
    (hs0 : starEach [.Call (.Name "zip" p2) [e, e2] [] pos2] X.env = [(false, eval (.Call (.Name "zip" p2) [e, e2] [] pos2) X.env)] := by rfl)
    (hs : starEach [e, e2] X.env = (false, eval e X.env) :: starEach [e2] X.env := by rfl) (hpl : (backTo pos2 (starEach [e2] X.env)).any (·.1) = false := by rfl) (hK : X.K = K := by rfl) :
    PE X (.Call (.Name "dict" p) [.Call (.Name "zip" p2) [e, e2] [] pos2] [] pos) (tDictZip K ta) := by
  subst hK
  refine ⟨fun pins s σ H Q I h => ?_⟩
  refine wpAny_Call_Name_kw (ld_blt I hg hm (by decide +kernel : bootBuiltins "dict" = some (.type "dict")) (PyProof.Rows.callWith_type1 ?_ hs0 rfl))
  rw [hs0]
  refine Calls.spliced_cons ?_
  refine Call_ (ld_blt I hg2 hm2 PyProof.Rows.boot_zip (PyProof.Rows.callWith_type1 (thn (ha.run pos2 pins s σ H _ I h) fun us s1 ⟨vs, H1, I1, r1, q1⟩ => ?_) hs hpl))
  obtain ⟨a, b, xs, ys, ex, hqx, hqy, hlen, q⟩ := q1
  subst ex
  cases r1 with
  | cons r rr =>
    cases rr with
    | cons r' rr =>
      cases rr
      cases r
      cases r'
      obtain ⟨its, rv, p1, hz1⟩ := I1.list hqx
      obtain ⟨its2, rv2, p2, hz2⟩ := I1.list hqy
      have la : a < s1.heap.objs.size := p1.lt
      have lb : b < s1.heap.objs.size := p2.lt
      have l1 := rv.length
      have l2 := rv2.length
      rw [List.length_map] at l1
      refine call_zip_2 p1.isList p2.isList fun h' hz hTI hTO h1 h2 hsz hk => Calls.spliced_nil ?_
      have I2 : Inv X pins σ H1 { s1 with heap := h' } := I1.kept (t' := s1.toks) hk
      have n5 : min its.toArray.size its2.toArray.size = xs.length := by rw [List.size_toArray, List.size_toArray]; omega
      refine call_dict_pairs (knd := mixKind X.prog X.w) (kvs := (xs.map Sum.inr).zip its2) (PairArg.zip _ _ _ _ _ a b (PySem.W.ktu_apart s1.heap.objs.size a b la lb) its.toArray its2.toArray) (I2.ok.hd hc)
        ⟨hz, hTI, ⟨_, _, hTO⟩, h1, h2, p1.isList.at fun o e => hk _ o e, p2.isList.at fun o e => hk _ o e⟩ ⟨by rw [n5, List.length_zip, List.length_map]; omega, fun i key v ⟨e1, e2⟩ => ?_⟩ (by rw [n5]; have := hz1; rw [List.length_map] at this; exact this) fun h'' tk hd' hk2 => ?_
      · rw [List.getElem?_toArray] at e1 e2
        have hi : i < xs.length := by have := (List.getElem?_eq_some_iff.mp e1).1; omega
        obtain ⟨u, hu, ru⟩ := rv.get (i := i) (x := V.str xs[i]) (by rw [List.getElem?_map, List.getElem?_eq_getElem hi]; rfl)
        rw [e1] at hu
        cases hu
        refine ⟨.inr xs[i], ?_, kV_is (k := .inr xs[i]) ru⟩
        rw [List.getElem?_zip_eq_some]
        exact ⟨by rw [List.getElem?_map, List.getElem?_eq_getElem hi]; rfl, e2⟩
      · have hm3 : (h'.objs.size == sysModules) = false := beq_eq_false_iff_ne.mpr (Nat.ne_of_gt (by rw [hsz]; exact Nat.lt_of_lt_of_le I1.big (Nat.le_add_right _ _)))
        have hlk : (mergeK [] ((xs.map (Sum.inr : Str → Key)).zip ys)).length ≤ sizeLine := by
          have h3 := length_mergeK ((xs.map (Sum.inr : Str → Key)).zip ys) []
          rw [List.length_nil, Nat.zero_add, List.length_zip, List.length_map] at h3
          rw [List.length_map] at hz1
          omega
        have hge : s1.heap.objs.size ≤ h'.objs.size := by rw [hsz]; exact Nat.le_add_right _ _
        have hk3 : ∀ b o, s1.heap.get? b = some o → h''.get? b = some o := fun b o e => hk2 b o (fun hb => by
          have hlt := Heap.lt_size e
          simp only [List.mem_cons, List.not_mem_nil, or_false] at hb
          rcases hb with z | z | z | z
          · rw [z] at hlt; exact absurd hlt (Nat.not_lt.mpr (Nat.le_add_right _ _))
          · rw [z] at hlt; exact absurd hlt (Nat.not_lt.mpr (Nat.le_add_right _ _))
          · rw [z] at hlt; exact absurd hlt (Nat.lt_irrefl _)
          · rw [z] at hlt; exact absurd hlt (Nat.not_lt.mpr (Nat.le_add_right _ _))) (hk b o e)
        exact ⟨.ref h'.objs.size, upd H1 h'.objs.size (.dK (mergeK [] ((xs.map Sum.inr).zip ys))), I1.laid (t' := tk) hk3 hge (show ObjOk X.prog X.w _ _ _ (.dK (mergeK [] ((xs.map Sum.inr).zip ys))) from ⟨hlk, hm3, merged [] ((xs.map Sum.inr).zip its2), KV.merge (kv_zip rv2) .nil, hd'⟩), rfl, q _ (I1.hok.fresh hge)⟩
theorem s_dictzip {K : PySem.W.Frag} {σ : L2.St} {H : Hp} {Q : VK} (h : ta σ H fun vs H1 => ∃ (a b : Addr) (xs : List Str) (ys : List V), vs = [.ref a, .ref b] ∧ SqL K H1 a (xs.map V.str) ∧ SqL K H1 b ys ∧ xs.length = ys.length ∧
  ∀ p, H1 p = none → Q (.ref p) (upd H1 p (.dK (mergeK [] ((xs.map Sum.inr).zip ys))))) : tDictZip K ta σ H Q := h
end
/-- texts for texts -/
def mapOf (ps : List (Str × Str)) (n : Str) : Str := ((ps.find? fun p => decide (p.1 = n)).map (·.2)).getD (Str.ofString "")
def strsKv (ps : List (Str × Str)) : List (PyData × PyData) := ps.map fun p => (.str p.1, .str p.2)
def strsD (ps : List (Str × Str)) : PyData := .dict (strsKv ps)
theorem mapOf_mem : ∀ {ps : List (Str × Str)} {p : Str × Str}, (ps.map (·.1)).Nodup → p ∈ ps → mapOf ps p.1 = p.2
  | x :: r, p, nd, h => by
    rw [List.map_cons, List.nodup_cons] at nd
    rcases List.mem_cons.mp h with e | h
    · subst e; simp [mapOf]
    · have hne : ¬ x.1 = p.1 := fun e => nd.1 (by rw [e]; exact List.mem_map_of_mem h)
      have ih := mapOf_mem nd.2 h
      unfold mapOf at ih ⊢
      rw [List.find?_cons, decide_eq_false hne]
      exact ih
theorem zip_fst {α β : Type} : ∀ {xs : List α} {ys : List β}, xs.length = ys.length → (xs.zip ys).map (·.1) = xs
  | [], [], _ => rfl
  | x :: r, y :: t, h => by rw [List.zip_cons_cons, List.map_cons, zip_fst (by simpa using h)]
  | [], _ :: _, h => by cases h
  | _ :: _, [], h => by cases h
theorem zip_snd {α β : Type} : ∀ {xs : List α} {ys : List β}, xs.length = ys.length → (xs.zip ys).map (·.2) = ys
  | [], [], _ => rfl
  | x :: r, y :: t, h => by rw [List.zip_cons_cons, List.map_cons, zip_snd (by simpa using h)]
  | [], _ :: _, h => by cases h
  | _ :: _, [], h => by cases h
theorem map_mapOf {ps : List (Str × Str)} (nd : (ps.map (·.1)).Nodup) : (ps.map (·.1)).map (mapOf ps) = ps.map (·.2) := by
  rw [List.map_map]
  exact List.map_congr_left fun p hp => mapOf_mem nd hp
theorem imkv_zip {S : List Addr} {H : Hp} : ∀ {xs ns : List Str}, ImKv S H ((xs.map (Sum.inr : Str → Key)).zip (ns.map V.str)) (strsKv (xs.zip ns))
  | [], _ => .nil
  | _ :: _, [] => .nil
  | x :: r, n :: t => .cons (k := .inr x) (.str n) (imkv_zip (xs := r) (ns := t))
theorem look_strs : ∀ {ps : List (Str × Str)} {n : Str}, n ∈ ps.map (·.1) → lookD (strsKv ps) n = some (.str (mapOf ps n))
  | p :: r, n, h => by
    show (if p.1 = n then some (PyData.str p.2) else lookD (strsKv r) n) = _
    by_cases e : p.1 = n
    · rw [if_pos e]
      unfold mapOf
      rw [List.find?_cons, decide_eq_true e]; rfl
    · rw [if_neg e, look_strs (List.mem_of_ne_of_mem (fun z => e z.symm) (by rw [List.map_cons] at h; exact h))]
      unfold mapOf
      rw [List.find?_cons, decide_eq_false e]
/-- a dict of texts, read by a name -/
theorem strs_get {S : List Addr} {H : Hp} {ps : List (Str × Str)} {kvs : List (Key × V)} (ik : ImKv S H kvs (strsKv ps)) {n : Str} (h : n ∈ ps.map (·.1)) : valV kvs (.inr n) = some (.str (mapOf ps n)) := by
  rcases look_im (n := n) ik with ⟨e1, e2⟩ | ⟨v, d, e1, e2, j⟩
  · rw [look_strs h] at e2; cases e2
  · rw [look_strs h] at e2
    cases e2
    cases j
    exact e1
/-- arcs moved -/
def movedA (h turn : Int) (A : Arcs) (ps : List (Str × Str)) (zs : List Str) : Arcs := zs.map fun n => (mapOf ps n, ((arcOf A n).1 + turn) % h, (arcOf A n).2)
theorem moved_names (h turn : Int) (A : Arcs) (ps : List (Str × Str)) (zs : List Str) : (movedA h turn A ps zs).map (·.1) = zs.map (mapOf ps) := by
  unfold movedA
  rw [List.map_map]; rfl
theorem moved_ok {h turn : Int} {A : Arcs} {ps : List (Str × Str)} {zs : List Str} (ok : ArcsOk h A) (hh : 0 < h) (h1 : (ps.map (·.1)).Perm (A.map (·.1))) (h2 : (ps.map (·.2)).Nodup) (h3 : ∀ p ∈ ps, NameOk p.2) (pz : zs.Perm (A.map (·.1))) : ArcsOk h (movedA h turn A ps zs) := by
  have nd1 : (ps.map (·.1)).Nodup := h1.nodup_iff.mpr ok.nd
  have pn : (zs.map (mapOf ps)).Perm (ps.map (·.2)) := by
    rw [← map_mapOf nd1]
    exact (pz.trans h1.symm).map _
  refine ⟨fun a ha => ?_, ?_, fun a ha => ?_, fun a ha => ?_⟩
  · have : a.1 ∈ zs.map (mapOf ps) := by rw [← moved_names h turn A ps zs]; exact List.mem_map_of_mem ha
    obtain ⟨p, hp, e⟩ := List.mem_map.mp (pn.mem_iff.mp this)
    rw [← e]; exact h3 p hp
  · rw [moved_names]; exact pn.nodup_iff.mpr h2
  · obtain ⟨n, hn, rfl⟩ := List.mem_map.mp ha
    exact ⟨Int.emod_nonneg _ (by omega), Int.emod_lt_of_pos _ hh⟩
  · obtain ⟨n, hn, rfl⟩ := List.mem_map.mp ha
    obtain ⟨x, hx, rfl⟩ := List.mem_map.mp (pz.mem_iff.mp hn)
    show 1 ≤ (arcOf A x.1).2 ∧ (arcOf A x.1).2 ≤ h
    rw [arcOf_mem ok.nd hx]
    exact ok.ln x hx
theorem join3 {α β γ : Type} {G : Prop} (P C : α → β → γ → Prop) (h1 : (∀ a b c, P a b c → C a b c) → G) (h2 : ∀ a b c, P a b c → C a b c) : G := h1 h2
/-- a dict of arcs from its pairs -/
theorem s_dictArcs {S : List Addr} {H : Hp} {Q : VK} {K : PySem.W.Frag} {a : Addr} {vs : List V} {A : Arcs} (ra : Rd H a (.lst vs)) (im : ImAll S H vs ((kvsD A).map fun p => .tuple [p.1, p.2])) (nd : (A.map (·.1)).Nodup) (al : Al S H)
    (h : ∀ p H', H p = none → p ∉ S → Nx [] H H' → H' p ≠ none → Im S H' (.ref p) (arcsD A) → Q (.ref p) H') : rDictP K [.ref a] H Q := by
  refine s_dictP (S := S) ra im (fun p hp => ?_) ?_ al (fun o H6 kv6 no noS g6 eo ndo io => h o H6 no noS g6 (by rw [eo]; simp) (.dct noS (.inl eo) ndo io.tail))
  · unfold kvsD at hp
    obtain ⟨z, hz, rfl⟩ := List.mem_map.mp hp
    exact ⟨.inr _, rfl⟩
  · unfold kvsD
    rw [List.map_map]
    rw [show ((fun x : PyData × PyData => x.1) ∘ fun a : Str × Int × Int => (PyData.str a.1, arcD a.2)) = (PyData.str ∘ fun a => a.1) from rfl, ← List.map_map]
    exact (nodup_inj (f := PyData.str) (fun a b z => by injection z)).mpr nd
theorem arcs_pairs (A : Arcs) : ((kvsD A).map fun p => PyData.tuple [p.1, p.2]) = A.map fun a => PyData.tuple [.str a.1, arcD a.2] := by
  unfold kvsD
  rw [List.map_map]; rfl
/-- a list by its items, out of another -/
theorem map_get {α β : Type} {ds : List β} {xs : List α} {g : α → β} (hl : ds.length = xs.length) (h : ∀ (i : Nat) (x : α), xs[i]? = some x → ds[i]? = some (g x)) : ds = xs.map g := by
  refine List.ext_getElem? fun i => ?_
  by_cases hi : i < xs.length
  · rw [h i _ (List.getElem?_eq_getElem hi), List.getElem?_map, List.getElem?_eq_getElem hi]; rfl
  · rw [List.getElem?_eq_none (by omega), List.getElem?_eq_none (by simpa using hi)]
theorem gTup2_mono {K : PySem.W.Frag} {i j : Nat} (x : V) (σ : L2.St) (H : Hp) (Q Q' : L2.St → Hp → Prop) (h : ∀ σ2 H2, Q σ2 H2 → Q' σ2 H2) (q : gTup K 2 (gCons (gName i) (gCons (gName j) gNil)) x σ H Q) : gTup K 2 (gCons (gName i) (gCons (gName j) gNil)) x σ H Q' := by
  obtain ⟨a, xs, e1, e2, e3, v, r, e4, q⟩ := q
  obtain ⟨v2, r2, e5, q⟩ := q
  obtain ⟨e6, q⟩ := q
  exact ⟨a, xs, e1, e2, e3, v, r, e4, v2, r2, e5, e6, h _ _ q⟩
/-- pairs within their bounds -/
def PairsOk (h : Int) (ws : List (Int × Int)) : Prop := ∀ w ∈ ws, (0 ≤ w.1 ∧ w.1 < h) ∧ (1 ≤ w.2 ∧ w.2 ≤ h)
theorem zip_ok {h : Int} {xs : List Str} {ws : List (Int × Int)} (hl : xs.length = ws.length) (hn : ∀ x ∈ xs, NameOk x) (nd : xs.Nodup) (hw : PairsOk h ws) : ArcsOk h (xs.zip ws) :=
  ⟨fun a ha => hn _ (List.of_mem_zip ha).1, by rw [zip_fst hl]; exact nd, fun a ha => (hw _ (List.of_mem_zip ha).2).1, fun a ha => (hw _ (List.of_mem_zip ha).2).2⟩
theorem all_map {α β : Type} {f : α → β} {P : α → Prop} : ∀ {ds : List β}, (∀ d ∈ ds, ∃ w, d = f w ∧ P w) → ∃ ws : List α, ds = ws.map f ∧ ∀ w ∈ ws, P w
  | [], _ => ⟨[], rfl, by simp⟩
  | d :: r, h => by
    obtain ⟨w, rfl, hw⟩ := h d List.mem_cons_self
    obtain ⟨ws, rfl, hr⟩ := all_map (ds := r) fun x hx => h x (List.mem_cons_of_mem _ hx)
    exact ⟨w :: ws, rfl, fun x hx => (List.mem_cons.mp hx).elim (fun e => by rw [e]; exact hw) (hr x)⟩
/-- told by index, told by member -/
theorem by_mem {β : Type} {ds : List β} {n : Nat} {P : β → Prop} (hl : ds.length = n) (h : ∀ i, i < n → ∃ d, ds[i]? = some d ∧ P d) : ∀ d ∈ ds, P d := fun d hd => by
  obtain ⟨i, hi, e⟩ := List.mem_iff_getElem.mp hd
  obtain ⟨d', e', p⟩ := h i (by omega)
  rw [List.getElem?_eq_getElem hi, e] at e'
  injection e' with e'
  rw [e']; exact p
end RG

/-! repr of data -/
namespace RG
open PySem PySem.Spec PyProof.Rows L2
mutual
def okR : PyData → Bool
  | .none | .bool _ => true
  | .int i => decide (i = 0)
  | .str x => x.cps.toList.all fun c => decide (c < 16 ^ 8)
  | .list xs | .tuple xs => okRAll xs
  | .dict kvs => okRKv kvs
def okRAll : List PyData → Bool
  | [] => true
  | x :: xs => okR x && okRAll xs
def okRKv : List (PyData × PyData) → Bool
  | [] => true
  | (k, v) :: r => okR k && okR v && okRKv r
end
mutual
def rl : PyData → Nat
  | .none | .bool _ | .int _ => 5
  | .str x => 10 * x.length + 2
  | .list xs | .tuple xs => rlAll xs + 3
  | .dict kvs => rlKv kvs + 3
def rlAll : List PyData → Nat
  | [] => 0
  | x :: xs => rl x + 2 + rlAll xs
def rlKv : List (PyData × PyData) → Nat
  | [] => 0
  | (k, v) :: r => rl k + rl v + 4 + rlKv r
end
theorem listText_len : ∀ (ts : List Str), (listText ts).length ≤ piled ts + 3 := by
  have key : ∀ (ts : List Str) (k : Nat) (acc : Str), (textFrom k acc ts).length ≤ acc.length + piled ts := by
    intro ts
    induction ts with
    | nil => intro k acc; exact Nat.le_add_right _ _
    | cons t r ih =>
      intro k acc
      have h := ih (k + 1) (acc ++ (if k > 0 then ", " else "" : String) ++ t)
      have e : (acc ++ (if k > 0 then ", " else "" : String) ++ t).length ≤ acc.length + 2 + t.length := by
        rw [strLen_append, strLen_append]
        have : ((if k > 0 then ", " else "" : String) : Str).length ≤ 2 := by split <;> decide +kernel
        omega
      rw [piled_cons]
      show (textFrom (k + 1) _ r).length ≤ _
      omega
  intro ts
  unfold listText
  rw [strLen_append]
  have h := key ts 0 "["
  have e1 : (("[" : String) : Str).length = 1 := rfl
  have e2 : (("]" : String) : Str).length = 1 := rfl
  omega
theorem dictText_len (ts : List Str) : (dictText ts).length ≤ piled ts + 3 := by
  unfold dictText
  rw [strLen_append, strLen_append]
  have e1 : (("{" : String) : Str).length = 1 := rfl
  have e2 : (("}" : String) : Str).length = 1 := rfl
  by_cases h : ts = []
  · subst h
    have : (Str.join ", " ([] : List Str)).length = 0 := rfl
    omega
  · have := join_length_add ts h
    omega
mutual
theorem shown_len : ∀ d : PyData, okR d = true → d.shown.length ≤ rl d
  | .none, _ => by rw [PyData.shown, rl]; decide +kernel
  | .bool b, _ => by rw [PyData.shown, rl]; cases b <;> decide +kernel
  | .int i, h => by
    have : i = 0 := of_decide_eq_true h
    subst this
    rw [PyData.shown, rl]; decide +kernel
  | .str x, h => by
    rw [PyData.shown, rl]
    exact StrLaws.reprText_len x fun c hc => of_decide_eq_true (List.all_eq_true.mp h c hc)
  | .list xs, h => by
    rw [PyData.shown, rl]
    have h1 := listText_len (PyData.shownAll xs)
    have h2 := shownAll_len xs h
    omega
  | .tuple xs, h => by
    rw [PyData.shown, rl]
    have h1 := fmt_text (PyData.shownAll xs)
    have h2 := shownAll_len xs h
    omega
  | .dict kvs, h => by
    rw [PyData.shown, rl]
    have h1 := dictText_len (PyData.shownKv kvs)
    have h2 := shownKv_len kvs h
    omega
theorem shownAll_len : ∀ xs : List PyData, okRAll xs = true → piled (PyData.shownAll xs) ≤ rlAll xs
  | [], _ => Nat.zero_le _
  | x :: r, h => by
    rw [okRAll, Bool.and_eq_true] at h
    rw [PyData.shownAll, piled_cons, rlAll]
    have h1 := shown_len x h.1
    have h2 := shownAll_len r h.2
    omega
theorem shownKv_len : ∀ xs : List (PyData × PyData), okRKv xs = true → piled (PyData.shownKv xs) ≤ rlKv xs
  | [], _ => Nat.zero_le _
  | (k, v) :: r, h => by
    rw [okRKv, Bool.and_eq_true, Bool.and_eq_true] at h
    rw [PyData.shownKv, piled_cons, rlKv, strLen_append, strLen_append]
    have h1 := shown_len k h.1.1
    have h2 := shown_len v h.1.2
    have h3 := shownKv_len r h.2
    have e : ((": " : String) : Str).length = 2 := rfl
    omega
end
mutual
theorem okR_showable : ∀ d : PyData, okR d = true → d.showable = true
  | .none, _ => by rw [PyData.showable]
  | .bool b, _ => by rw [PyData.showable]
  | .int i, h => by
    have : i = 0 := of_decide_eq_true h
    subst this
    rfl
  | .str x, h => by rw [PyData.showable]
  | .list xs, h => by rw [PyData.showable]; exact okRAll_showable xs h
  | .tuple xs, h => by rw [PyData.showable]; exact okRAll_showable xs h
  | .dict kvs, h => by rw [PyData.showable]; exact okRKv_showable kvs h
theorem okRAll_showable : ∀ xs : List PyData, okRAll xs = true → PyData.showableAll xs = true
  | [], _ => by rw [PyData.showableAll]
  | x :: r, h => by
    rw [okRAll, Bool.and_eq_true] at h
    rw [PyData.showableAll, okR_showable x h.1, okRAll_showable r h.2]; rfl
theorem okRKv_showable : ∀ xs : List (PyData × PyData), okRKv xs = true → PyData.showableKv xs = true
  | [], _ => by rw [PyData.showableKv]
  | (k, v) :: r, h => by
    rw [okRKv, Bool.and_eq_true, Bool.and_eq_true] at h
    rw [PyData.showableKv, okR_showable k h.1.1, okR_showable v h.1.2, okRKv_showable r h.2]; rfl
end
section
variable {X : Cx} {pins : List (Addr × Obj)} {σ : L2.St} {H : Hp} {s : Shared} {S : List Addr}
theorem pairs_keys {P : Program} {w : World} {h : Heap} : ∀ {es : List DictEntry} {kvs : List (Key × V)} {vs : List (Key × Value)} {ds : List (PyData × PyData)}, KV kvs vs → Pairs (mixKind P w) es vs → ImKv S H kvs ds → ReadsAll h (es.map (·.key)) (ds.map (·.1)) []
  | _, _, _, _, .nil, .nil, .nil => .nil
  | _, _, _, _, .cons (a := (k, v)) r t, .cons e1 e2 p, .cons i t2 => by
    obtain ⟨r1, r2⟩ := r
    dsimp only at r1
    have ih := pairs_keys (h := h) t p t2
    rw [← r1] at e1
    rcases keyIs_shape (show keyIs k _ = true from e1) with ⟨j, u, rfl, e⟩ | ⟨x, u, rfl, e⟩
    · rw [List.map_cons, List.map_cons, e]
      exact .cons (.int j u) ih
    · rw [List.map_cons, List.map_cons, e]
      exact .cons (.str x u) ih
mutual
theorem Im.reads (I : Inv X pins σ H s) : ∀ (d : PyData) {v : V} {u : Value}, Im S H v d → RelV v u → ∃ as, Reads s.heap u d as ∧ ∀ a ∈ as, H a ≠ none
  | .none, _, _, h, r => by cases h; cases r; exact ⟨_, .none, by simp⟩
  | .bool b, _, _, h, r => by cases h; cases r; exact ⟨_, .bool b, by simp⟩
  | .int i, _, _, h, r => by cases h; obtain ⟨t, rfl⟩ := r; exact ⟨_, .int i t, by simp⟩
  | .str x, _, _, h, r => by cases h; obtain ⟨t, rfl⟩ := r; exact ⟨_, .str x t, by simp⟩
  | .list ds, _, _, h, r => by
    cases h with
    | lst n rd im =>
      cases r
      obtain ⟨its, rv, ⟨o, n2, ho, hc, _, hd⟩, _⟩ := I.list (.inl rd)
      obtain ⟨as, hr, hn⟩ := ImAll.reads I ds im rv
      exact ⟨_, .list ho hc hd (by simpa using hr), fun a ha => (List.mem_cons.mp ha).elim (fun z => by rw [z]; exact rd_some rd) (hn a)⟩
  | .tuple ds, _, _, h, r => by
    cases h with
    | tup n rd im =>
      cases r
      obtain ⟨its, rv, ⟨o, ho, hc, n2, hd⟩, _⟩ := I.tuple (.inl rd)
      obtain ⟨as, hr, hn⟩ := ImAll.reads I ds im rv
      exact ⟨_, .tuple ho hc hd (by simpa using hr), hn⟩
  | .dict ds, _, _, h, r => by
    cases h with
    | dct n rd nd im =>
      cases r
      obtain ⟨hz, hsy, vs, kv, dd⟩ := dk_rd I.hok rd
      obtain ⟨o, es, ep, ho, hx, hd, _, pr, _⟩ := dd
      have hk := pairs_keys (h := s.heap) kv pr im
      obtain ⟨bs, hv, hb⟩ := ImKv.reads I ds kv pr im
      exact ⟨_, .dict ho hx.1 hd hk hv, fun a ha => by
        rcases List.mem_append.mp ha with h1 | h1
        · rw [List.mem_singleton.mp h1]; exact rd_some rd
        · exact hb a h1⟩
theorem ImAll.reads (I : Inv X pins σ H s) : ∀ (ds : List PyData) {vs : List V} {us : List Value}, ImAll S H vs ds → Vals vs us → ∃ as, ReadsAll s.heap us ds as ∧ ∀ a ∈ as, H a ≠ none
  | [], _, _, h, r => by cases h; cases r; exact ⟨_, .nil, by simp⟩
  | d :: ds, _, _, h, r => by
    cases h with
    | cons h1 h2 =>
      cases r with
      | cons r1 r2 =>
        obtain ⟨as, q1, n1⟩ := Im.reads I d h1 r1
        obtain ⟨bs, q2, n2⟩ := ImAll.reads I ds h2 r2
        exact ⟨_, .cons q1 q2, fun a ha => (List.mem_append.mp ha).elim (n1 a) (n2 a)⟩
theorem ImKv.reads (I : Inv X pins σ H s) : ∀ (ds : List (PyData × PyData)) {es : List DictEntry} {kvs : List (Key × V)} {vs : List (Key × Value)}, KV kvs vs → Pairs (mixKind X.prog X.w) es vs → ImKv S H kvs ds → ∃ as, ReadsAll s.heap (es.map (·.val)) (ds.map (·.2)) as ∧ ∀ a ∈ as, H a ≠ none
  | [], _, _, _, r, p, h => by
    cases h
    cases r
    cases p
    exact ⟨_, .nil, by simp⟩
  | (k, d) :: ds, _, _, _, r, p, h => by
    cases h with
    | cons h1 h2 =>
      cases r with
      | cons r1 r2 =>
        cases p with
        | cons e1 e2 p2 =>
          obtain ⟨as, q1, n1⟩ := Im.reads I d h1 r1.2
          obtain ⟨bs, q2, n2⟩ := ImKv.reads I ds r2 p2 h2
          refine ⟨_, ?_, fun a ha => (List.mem_append.mp ha).elim (n1 a) (n2 a)⟩
          rw [List.map_cons, List.map_cons, e2]
          exact .cons q1 q2
end
end
section
variable {X : Cx} {k : Nat}
def rRepr : List V → Hp → VK → Prop := fun xs H Q => ∃ (v : V) (S : List Addr) (d : PyData), xs = [v] ∧ Im S H v d ∧ okR d = true ∧ rl d ≤ 1000000 ∧ d.depth ≤ 150 ∧ Q (.str d.shown) H
theorem kreprD (hr : Room k X.A) (hg : X.A.guards = some []) (hs : ∃ o, X.K.lookup sysModules = some o) : CallR X (.builtin "repr") rRepr := by
  intro pins s σ H xs us Q I r h
  obtain ⟨v, S, d, rfl, im, ok, hl, hd, q⟩ := h
  obtain ⟨u, rfl, ru⟩ := vals1 r
  have hu := hr.un
  have hz : d.shown.length ≤ sizeLine := Nat.le_trans (Nat.le_trans (shown_len d ok) hl) (by decide)
  have hS : H sysModules = none := by
    obtain ⟨o, e⟩ := hs
    exact (I.bs _ _ (I.ok.mod.kin _ _ e)).2
  have big : ∀ a, v = .ref a → wpAny (model X.prog X.w) X.A (call (.builtin "repr") [u]) (EP X pins σ Q) X.xe s := fun a ea => by
    subst ea
    obtain rfl : u = Value.ref a := ru
    obtain ⟨as, rd, hn⟩ := im.reads I d rfl
    exact repr_of_reads' rd (okR_showable d ok) (fun _ hm => hn _ hm hS) hg (by omega) (fun _ _ e => e) (fun h' u tk hk => ⟨.str d.shown, H, I.kept (t' := tk) hk, ⟨_, rfl⟩, q⟩) hz
  cases im with
  | non =>
    cases ru
    exact PySem.P.repr_of_none ⟨.str _, H, I.tok _, ⟨_, rfl⟩, q⟩
  | bl b =>
    cases ru
    exact PySem.P.repr_of_bool ⟨.str _, H, I.tok _, ⟨_, rfl⟩, q⟩
  | int i =>
    obtain ⟨t, rfl⟩ := ru
    have : i = 0 := of_decide_eq_true ok
    subst this
    exact PySem.P.repr_of_int (by decide) ⟨.str _, H, I.tok _, ⟨_, rfl⟩, q⟩
  | str x =>
    obtain ⟨t, rfl⟩ := ru
    exact PySem.P.repr_of_str ⟨.str _, H, I.tok _, ⟨_, rfl⟩, q⟩ hz
  | lst => exact big _ rfl
  | tup => exact big _ rfl
  | dct => exact big _ rfl
end
end RG

/-! small data: dicts from names to small things -/
namespace RG
open PySem PySem.Spec PyProof.Rows L2
/-- a datum that may be shown, told and compared -/
structure Okd (d : PyData) : Prop where
  ok : okR d = true
  rl : rl d ≤ 100000
  dp : d.depth ≤ 20
  sm : sm d = true
/-- a value within such a dict -/
structure Okv (d : PyData) : Prop where
  ok : okR d = true
  rl : rl d ≤ 500
  dp : d.depth ≤ 8
  sm : sm d = true
def Ent (p : PyData × PyData) : Prop := ∃ x : Str, p.1 = .str x ∧ x.length ≤ 8 ∧ okR (.str x) = true ∧ Okv p.2
theorem ents_kv : ∀ {ds : List (PyData × PyData)}, (∀ p ∈ ds, Ent p) → okRKv ds = true ∧ rlKv ds ≤ 586 * ds.length ∧ PyData.depthKv ds ≤ 8 ∧ smKv ds = true
  | [], _ => ⟨rfl, Nat.zero_le _, Nat.zero_le _, rfl⟩
  | (k, v) :: r, h => by
    obtain ⟨x, e, hl, ox, o⟩ := h (k, v) List.mem_cons_self
    dsimp only at e
    subst e
    obtain ⟨h1, h2, h3, h4⟩ := ents_kv (ds := r) fun p hp => h p (List.mem_cons_of_mem _ hp)
    have o1 := o.rl
    have o2 := o.dp
    dsimp only at o1 o2
    refine ⟨by rw [okRKv, ox, o.ok, h1]; rfl, ?_, ?_, ?_⟩
    · rw [rlKv, rl, List.length_cons]; omega
    · rw [PyData.depthKv, PyData.depth]; omega
    · rw [smKv, o.sm, h4, sm, decide_eq_true (show x.length ≤ 1000 by omega)]; rfl
theorem ents_ok {ds : List (PyData × PyData)} (h : ∀ p ∈ ds, Ent p) (hl : ds.length ≤ 60) : Okd (.dict ds) := by
  obtain ⟨h1, h2, h3, h4⟩ := ents_kv h
  refine ⟨h1, ?_, ?_, ?_⟩
  · rw [rl]; omega
  · rw [PyData.depth]; omega
  · rw [sm, h4, decide_eq_true (show ds.length ≤ 1000 by omega)]; rfl
theorem items_ok {ds : List (PyData × PyData)} (h : ∀ p ∈ ds, Ent p) (hl : ds.length ≤ 60) : Okd (itemsD ds) := by
  have key : ∀ ds : List (PyData × PyData), (∀ p ∈ ds, Ent p) → okRAll (ds.map fun p => PyData.tuple [p.1, p.2]) = true ∧ rlAll (ds.map fun p => PyData.tuple [p.1, p.2]) ≤ 700 * ds.length ∧ PyData.depthAll (ds.map fun p => PyData.tuple [p.1, p.2]) ≤ 9 := by
    intro ds
    induction ds with
    | nil => intro _; exact ⟨rfl, Nat.zero_le _, Nat.zero_le _⟩
    | cons p r ih =>
      intro h
      obtain ⟨k, v⟩ := p
      obtain ⟨x, e, hl, ox, o⟩ := h (k, v) List.mem_cons_self
      dsimp only at e
      subst e
      obtain ⟨h1, h2, h3⟩ := ih fun p hp => h p (List.mem_cons_of_mem _ hp)
      have o1 := o.rl
      have o2 := o.dp
      dsimp only at o1 o2
      refine ⟨?_, ?_, ?_⟩
      · rw [List.map_cons, okRAll, h1, okR, okRAll, okRAll, okRAll, o.ok, ox]; rfl
      · rw [List.map_cons, rlAll, rl, rlAll, rlAll, rlAll, rl, List.length_cons]; dsimp only; omega
      · rw [List.map_cons, PyData.depthAll, PyData.depth, PyData.depthAll, PyData.depthAll, PyData.depthAll, PyData.depth]; dsimp only; omega
  obtain ⟨h1, h2, h3⟩ := key ds h
  obtain ⟨_, _, _, h4⟩ := ents_kv h
  unfold itemsD
  refine ⟨h1, ?_, ?_, ?_⟩
  · rw [rl]; omega
  · rw [PyData.depth]; omega
  · rw [sm, sm_items ds h4, List.length_map, decide_eq_true (show ds.length ≤ 1000 by omega)]; rfl
theorem nm_okR {x : Str} (h : NameOk x) : okR (.str x) = true := List.all_eq_true.mpr fun c hc => decide_eq_true (Nat.lt_of_lt_of_le ((by decide : ∀ c ∈ sigC, c < 1000) c (h.all c hc)) (by decide))
theorem nm_okv {x : Str} (h : NameOk x) : Okv (.str x) := ⟨nm_okR h, by rw [rl]; have := h.hi; omega, by rw [PyData.depth]; omega, by rw [sm]; exact decide_eq_true (nm_len h)⟩
theorem strs_ent {ps : List (Str × Str)} (h1 : ∀ p ∈ ps, NameOk p.1) (h2 : ∀ p ∈ ps, NameOk p.2) : ∀ p ∈ strsKv ps, Ent p := fun p hp => by
  unfold strsKv at hp
  obtain ⟨q, hq, rfl⟩ := List.mem_map.mp hp
  exact ⟨q.1, rfl, (h1 q hq).hi, nm_okR (h1 q hq), nm_okv (h2 q hq)⟩
/-- an entry taken out -/
theorem ImKv.dropK {S : List Addr} {H : Hp} {k : Key} : ∀ {kvs : List (Key × V)} {ds : List (PyData × PyData)}, ImKv S H kvs ds → ∃ ds', ImKv S H (L2.dropK kvs k) ds' ∧ (∀ p ∈ ds', p ∈ ds) ∧ ds'.length ≤ ds.length
  | _, _, .nil => ⟨[], .nil, fun _ h => h, Nat.le_refl _⟩
  | _, _, .cons (k := k1) (v := v) (d := d) a t => by
    obtain ⟨ds', h1, h2, h3⟩ := ImKv.dropK (k := k) t
    by_cases e : k1 = k
    · refine ⟨ds', ?_, fun p hp => List.mem_cons_of_mem _ (h2 p hp), Nat.le_succ_of_le h3⟩
      rw [dropK_pos (p := (k1, v)) e]; exact h1
    · refine ⟨(RG.kD k1, d) :: ds', ?_, fun p hp => ?_, Nat.succ_le_succ h3⟩
      · rw [dropK_neg (p := (k1, v)) e]; exact .cons a h1
      · rcases List.mem_cons.mp hp with z | z
        · rw [z]; exact List.mem_cons_self
        · exact List.mem_cons_of_mem _ (h2 p z)
theorem mapK {S : List Addr} {H : Hp} {k : Key} {v : V} {d : PyData} (hv : Im S H v d) : ∀ {kvs : List (Key × V)} {ds : List (PyData × PyData)}, ImKv S H kvs ds → ∃ ds', ImKv S H (kvs.map fun kv => if kv.1 = k then (kv.1, v) else kv) ds' ∧ (∀ p ∈ ds', p ∈ ds ∨ p = (RG.kD k, d)) ∧ ds'.length = ds.length
  | _, _, .nil => ⟨[], .nil, fun _ h => .inl h, rfl⟩
  | _, _, .cons (k := k1) (v := v1) (d := d1) a t => by
    obtain ⟨ds', h1, h2, h3⟩ := mapK hv t
    by_cases e : k1 = k
    · refine ⟨(RG.kD k1, d) :: ds', ?_, fun p hp => ?_, by rw [List.length_cons, List.length_cons, h3]⟩
      · rw [List.map_cons, if_pos e]; exact .cons hv h1
      · rcases List.mem_cons.mp hp with z | z
        · exact .inr (by rw [z, e])
        · exact (h2 p z).imp (List.mem_cons_of_mem _) id
    · refine ⟨(RG.kD k1, d1) :: ds', ?_, fun p hp => ?_, by rw [List.length_cons, List.length_cons, h3]⟩
      · rw [List.map_cons, if_neg e]; exact .cons a h1
      · rcases List.mem_cons.mp hp with z | z
        · exact .inl (by rw [z]; exact List.mem_cons_self)
        · exact (h2 p z).imp (List.mem_cons_of_mem _) id
theorem ImKv.putK {S : List Addr} {H : Hp} {k : Key} {v : V} {d : PyData} {kvs : List (Key × V)} {ds : List (PyData × PyData)} (ik : ImKv S H kvs ds) (hv : Im S H v d) (nd : (kvs.map (·.1)).Nodup) :
    ∃ ds', ImKv S H (L2.putK kvs k v) ds' ∧ (∀ p ∈ ds', p ∈ ds ∨ p = (RG.kD k, d)) ∧ ds'.length ≤ ds.length + 1 ∧ ((L2.putK kvs k v).map (·.1)).Nodup := by
  by_cases h : k ∈ kvs.map (·.1)
  · have e : L2.putK kvs k v = kvs.map fun kv => if kv.1 = k then (kv.1, v) else kv := by
      unfold L2.putK
      rw [if_pos]
      obtain ⟨p, hp, e⟩ := List.mem_map.mp h
      exact List.any_eq_true.mpr ⟨p, hp, decide_eq_true e⟩
    obtain ⟨ds', h1, h2, h3⟩ := mapK (k := k) hv ik
    rw [e]
    refine ⟨ds', h1, h2, by omega, ?_⟩
    have : (kvs.map fun kv => if kv.1 = k then (kv.1, v) else kv).map (·.1) = kvs.map (·.1) := by
      rw [List.map_map]
      refine List.map_congr_left fun p _ => ?_
      show (if p.1 = k then (p.1, v) else p).1 = p.1
      split <;> rfl
    rw [this]; exact nd
  · rw [RG.putK_new h]
    refine ⟨ds ++ [(RG.kD k, d)], ik.snoc hv, fun p hp => (List.mem_append.mp hp).imp id (fun z => by simpa using z), by rw [List.length_append]; exact Nat.le_refl _, ?_⟩
    rw [List.map_append]
    exact List.nodup_append.mpr ⟨nd, by simp, fun x hx y hy z => h (by
      have hy' : y = k := by simpa using hy
      rw [← hy', ← z]; exact hx)⟩
theorem ImAll.mem {S : List Addr} {H : Hp} : ∀ {vs : List V} {ds : List PyData}, ImAll S H vs ds → ∀ {v : V}, v ∈ vs → ∃ d ∈ ds, Im S H v d
  | _, _, .cons a t, v, h => by
    rcases List.mem_cons.mp h with e | h
    · rw [e]; exact ⟨_, List.mem_cons_self, a⟩
    · obtain ⟨d, hd, i⟩ := ImAll.mem t h
      exact ⟨d, List.mem_cons_of_mem _ hd, i⟩
theorem join0 {A G : Prop} (h1 : A → G) (h2 : A) : G := h1 h2
theorem okd_leaf {d : PyData} (h1 : okR d = true) (h2 : rl d ≤ 100) (h3 : d.depth ≤ 3) (h4 : sm d = true) : Okd d := ⟨h1, by omega, by omega, h4⟩
theorem okv_leaf {d : PyData} (h1 : okR d = true) (h2 : rl d ≤ 100) (h3 : d.depth ≤ 3) (h4 : sm d = true) : Okv d := ⟨h1, by omega, by omega, h4⟩
theorem s_disp {trs : List (TE × TE)} {σ : L2.St} {H : Hp} {Q : VK} (h : ∀ p, H p = none → tPairs trs σ (upd H p (.dK [])) fun ps H2 => H2 p = some (.dK []) ∧ ∃ kvs : List (Key × V), ps = kvs.map (fun kv => (kV kv.1, kv.2)) ∧ kvs.length ≤ 15 ∧ Q (.ref p) (upd H2 p (.dK (mergeK [] kvs)))) : tDisp trs σ H Q := h
theorem s_tp1 {tk tv : TE} {σ : L2.St} {H : Hp} {Q : List (V × V) → Hp → Prop} (h : tk σ H fun x H1 => tv σ H1 fun y H2 => Q [(x, y)] H2) : tPairs [(tk, tv)] σ H Q := h
theorem s_tp2 {tk tv tk2 tv2 : TE} {σ : L2.St} {H : Hp} {Q : List (V × V) → Hp → Prop} (h : tk σ H fun x H1 => tv σ H1 fun y H2 => tk2 σ H2 fun x2 H3 => tv2 σ H3 fun y2 H4 => Q [(x, y), (x2, y2)] H4) : tPairs [(tk, tv), (tk2, tv2)] σ H Q := h
theorem mapOf_ok {ps : List (Str × Str)} (h2 : ∀ p ∈ ps, NameOk p.2) (nd : (ps.map (·.1)).Nodup) {n : Str} (h : n ∈ ps.map (·.1)) : NameOk (mapOf ps n) := by
  obtain ⟨p, hp, rfl⟩ := List.mem_map.mp h
  rw [mapOf_mem nd hp]; exact h2 p hp
end RG

/-! an own error whose __init__ says super().__init__(a text) and keeps one field -/
namespace RG
open PySem PySem.Spec PyProof.Rows L2 PySem.Calls
/-- what the written part says of the class at C and of its __init__ at fI -/
structure ExF (P : Program) (K : PySem.W.Frag) (C fI : Addr) (fld qual : Str) (params : Arguments) (body : List Stmt) (scope : Scope) : Prop where
  O : OexC K C
  noF : PySem.W.findIn K (.ref C) fld = some none
  iC : PySem.W.findIn K (.ref C) "__init__" = some (some (.ref fI))
  tI : PySem.W.typeIn K (.ref fI) = some (.type "function")
  fn : ∃ (oc doc pm ct : Value) (od : Option Addr) (an : Option Addr) (cc cda : Addr) (osl : Array (Option Value)),
    K.lookup fI = some ⟨oc, od, .func (PySem.W.ksFn "__init__" qual params body scope .none .none doc pm an (.ref cda) ct cc), osl⟩ ∧ PySem.W.codeIn K (.ref cda) qual = true ∧
    (∃ ccl ccd csl, K.lookup cc = some ⟨ccl, ccd, .cell (some (.ref C)), csl⟩) ∧ ∃ ccl cdd vs ccs file tf, K.lookup cda = some ⟨ccl, cdd, .fields vs, ccs⟩ ∧ vs[2]? = some (.str file tf) ∧ ((P.main.file : Str) == file) = true
  mro : PySem.W.mroIn K C (.ref C) = some true
  sup : PySem.W.ks_superIn K C C "__init__" = some (some (.builtin "ValueError.__init__"))
  sub : PySem.W.subIn K (.ref C) (.type "ValueError") = some true
  ga : PySem.W.findIn K (.ref C) "__getattribute__" = some (some (.builtin "BaseException.__getattribute__"))
  gg : PySem.W.findIn K (.ref C) "__getattr__" = some none
  hdC : PySem.W.hasDictIn K C = true
  te : PySem.W.exmOne K (.ref C) (.ref C) = some true
  opq : PySem.W.nsIn K cStatics "thirdparty.any" = some none
def spSup (C : Addr) (fld : Str) : Sp := fun vs H Q _ => ∃ (a : Addr) (v : V), vs = [.ref a, v] ∧ H a = some (exo a C none) ∧ ∀ dx, H dx = none → dx ≠ a → Q .non (upd (upd H dx (exd dx [(fld, v)])) a (exo a C (some dx)))
/-- the wrapper of ValueError.__init__, called -/
theorem call_vw {prog : Program} {w : World} {A : Around} {E : Value → Shared → Prop} {s : Shared} {nm q : Str} {C N : Addr} {bs bm : List Value} {hdct : Bool} {sn : List Str} {sub : List Value} {ab : Bool} {col : Option Bool} {dd : Option Addr} {k0 k1 k2 k3 k5 : Option Value}
    {u e t0 : Addr} {rest : List Value} {Q : Value → Shared → Prop} (hC : s.heap.get? C = some (excClassObj nm q C N bs bm hdct sn sub ab col dd k0 k1 k2 k3 k5 "ValueError.__new__")) (he : s.heap.get? e = some (PySem.W.excObj C t0 none .none))
    (hu : s.heap.get? u = some (PySem.W.kxs_mw "ValueError.__init__" e)) (hz : rest.length ≤ sizeLine) (hq : ∀ h' t1, (∀ b o, b ≠ e → s.heap.get? b = some o → h'.get? b = some o) → h'.get? e = some (PySem.W.excObj C t1 none .none) → Q .none { s with heap := h' }) :
    wpAny (model prog w) A (call (.ref u) rest) Q E s := by
  obtain ⟨hh, gg, dr, tk, os⟩ := s
  refine wpAny_call (codeAny_of_tree ?_)
  show wpAny _ A.in1 (callAny (.ref u) ⟨rest, []⟩) _ _ _
  simp only [callAny]
  refine wpAny_bind (wpAny_load hu ?_)
  simp only [PySem.W.kxs_mw, show (Value.type "method-wrapper" == Value.type "method" || Value.type "method-wrapper" == Value.type "builtin_function_or_method" || Value.type "method-wrapper" == Value.type "method-wrapper") = true by decide, if_true]
  refine PySem.W.KFB.if_so (by decide) ?_
  refine wpAny_bind (PySem.W.check_bound_init F.excBase_ValueError.toExcCallFacts hC he rfl ?_)
  refine wpAny_bind (wpAny_pure (wpAny_pure ?_))
  refine ⟨plainId_quiet F.excBase_ValueError.init.plain _, codeAny_builtin F.excBase_ValueError.initEntry ?_⟩
  exact PySem.W.exc_init_tree (cls := .ref C) (t0 := t0) (dv := none) (c2 := .none) (c3 := .none) (b4 := .bool false) he hz fun h' k1 k2 _ => hq h' _ k1 k2
section
variable {P : Program} {w : World} {K : PySem.W.Frag} {mg : Str → Option Value} {base : Heap} {C fI : Addr} {fld qual : Str} {params : Arguments} {body : List Stmt} {scope : Scope} {CX : CXT} {k : Nat}
theorem ok_sup (F : ExF P K C fI fld qual params body scope) (hS : mg "super" = none)
    {p0 p1 p2 p3 p4 p5 q1 q2 q3 q4 : Pos} {tx : Str} {kd : Nat} {ar : Arg}
    (hbody : body = [.Expr (.Call (.Attribute (.Call (.Name "super" p0) [] [] p1) "__init__" p2) [.Constant (.str tx) kd p3] [] p4) p5, .Assign [.Attribute (.Name "self" q1) fld q2] (.Name fld q3) q4])
    (hsc : scope.kind = .function) (hco : scope.isCoroutine = false) (hgen : scope.isGenerator = false) (hks : scope.names.lookup ("super" : Str) = some .globalImplicit) (hkc : scope.names.lookup ("__class__" : Str) = some .free) (hls : scope.names.lookup ("self" : Str) = some .local) (hlf : scope.names.lookup fld = some .local)
    (hcell : ∀ x ∈ scope.names, x.2 ≠ .cell) (hfree : ∀ x, scope.names.lookup x = some .free → x = "__class__") (har : (params.posonlyargs ++ params.args).head? = some ar) (harn : ar.arg = "self") (hne : fld ≠ "self") (hdn : (fld == ("__debug__" : Str)) = false) (hdc : (fld == ("__classdict__" : Str)) = false)
    (hcall : ∀ env : Env, ∃ pl, eval (.Call (.Attribute (.Call (.Name "super" p0) [] [] p1) "__init__" p2) [.Constant (.str tx) kd p3] [] p4) env = (do
      let ov ← attributeBase (.Call (.Name "super" p0) [] [] p1) "__init__" env (eval (.Call (.Name "super" p0) [] [] p1) env)
      standAt p2.atName
      let (f, first) ← holding [ov] (getMethod ov "__init__" pl)
      callWith p4 f first (backTo p4 (starEach [.Constant (.str tx) kd p3] env)) []))
    (hint : ∀ L f cd cc, interactive (PySem.W.ksEnv qual scope L f cd cc) = false)
    (hsw : ∀ env : Env, swapsWith (.Call (.Attribute (.Call (.Name "super" p0) [] [] p1) "__init__" p2) [.Constant (.str tx) kd p3] [] p4) none p5.line env = pure false)
    (hsw2 : ∀ env : Env, swapsWith (.Name fld q3) (some (.Attribute (.Name "self" q1) fld q2)) q4.line env = pure false)
    (htop : (P.main.scope.names.lookup ("super" : Str)).isSome = false)
    (hbd : ∀ (doc pm : Value) (an : Option Addr) (cdv ct : Value) (cc : Addr) (us : List Value), us.length = 2 → bindArgs (PySem.W.ksFn "__init__" qual params body scope .none .none doc pm an cdv ct cc) ⟨us, []⟩ = pure (([("self" : Str), fld] : List Str).zip us)) :
    ∃ fd, FnOk P w K mg base CX k fI fd ["self", fld] (spSup C fld) ∧ Binds K fd ["self", fld] [] := by
  obtain ⟨oc, doc, pm, ct, od, an, cc, cda, osl, lk, hcd, ⟨ccl, ccd, csl, lkc⟩, dcl, dcd, vs, ccs, file, tf, lkd, hvs, hfile⟩ := F.fn
  refine ⟨PySem.W.ksFn "__init__" qual params body scope .none .none doc pm an (.ref cda) ct cc, ?_, .all fun us hl => hbd doc pm an (.ref cda) ct cc us hl⟩
  refine ⟨fun vs H Q E h => by obtain ⟨a, v, rfl, _⟩ := h; rfl, fun A outer s H args us ws Q E hr e0 hb r hsp => ?_⟩
  obtain ⟨a, v, rfl, ha, q⟩ := hsp
  have KX : K.In s.heap := e0.mod.kin.keeps fun b o e => (e0.bs b o e).1
  have lim : s.heap.NoLimit := e0.mod.nolimit.keeps fun b o e => (e0.bs b o e).1
  obtain ⟨u1, u2, eus, r1, r2⟩ := vals2 r
  subst eus
  obtain rfl : u1 = Value.ref a := r1
  refine PySem.ks_codeAny_call_defAt (fd := PySem.W.ksFn "__init__" qual params body scope .none .none doc pm an (.ref cda) ct cc) (body := body) (binds := [(("self" : Str), .ref a), (fld, u2)]) hr.depth (KX _ _ lk) rfl lim (PySem.W.codeRec_of KX hcd) rfl hb hcell (fun y hy => ?_) (fun h₀ hns hk => ?_) hco hgen hsc
  · simp only [List.mem_cons, List.not_mem_nil, or_false] at hy
    rcases hy with e | e <;> rw [e]
    · exact hls
    · exact hlf
  -- the running body
  have hL : s.heap.objs.size ≤ s.heap.objs.size := Nat.le_refl _
  let env : Env := PySem.W.ksEnv qual scope s.heap.objs.size fI (.ref cda) cc
  let X : Cx := {
    prog := P
    w := w
    K := K
    mg := mg
    base := base
    A := A.deeper env
    N := ["self", fld]
    s_0 := s
    H_0 := H
    env := env
    outer := outer
    stack := env :: outer
    ex := []
    fn := (fun _ => false)
    calm := true
    pn := []
    xe := (fun e s' => wpAny (model P w) (A.deeper env) (leaving env e) (fun _ s'' => CR CX outer P w H s Q E (.error e) s'') (fun e' s'' => CR CX outer P w H s Q E (.error e') s'') s') }
  have noA : ∀ b : Addr, b ∉ X.ex := fun b z => absurd (show b ∈ ([] : List Addr) from z) (by simp)
  have hcl : ∀ {x : Str} {c : Addr}, env.cells.lookup x = some c → x = "__class__" ∧ c = cc := fun {x c} h => by
    have h' : List.lookup x [(("__class__" : Str), cc)] = some c := h
    rw [List.lookup] at h'
    by_cases e : (x == ("__class__" : Str)) = true
    · rw [e] at h'
      exact ⟨by simpa using e, by injection h' with h'; exact h'.symm⟩
    · rw [show (x == ("__class__" : Str)) = false by simpa using e] at h'
      cases h'
  have hcc : env.cells.lookup ("__class__" : Str) = some cc := by
    show List.lookup ("__class__" : Str) [(("__class__" : Str), cc)] = some cc
    rw [List.lookup, show (("__class__" : Str) == ("__class__" : Str)) = true by decide +kernel]
  have bcc : base.get? cc = some ⟨ccl, ccd, .cell (some (.ref C)), csl⟩ := e0.mod.kin _ _ lkc
  have I : Inv X [] [some (.ref a), some v] H { s with heap := h₀, toks := s.toks + 2 } := by
    refine ⟨⟨e0.mod, hsc, rfl, rfl, Nat.le_refl _, fun y z c h1 h2 => by rw [(hcl h1).1, (hcl h2).1], fun y hy => ?_, fun y c hf _ => Bool.noConfusion (show false = true from hf), fun _ => hr.hd, Around.frames_deeper e0.frames, .inr ⟨rfl, rfl⟩, fun b z => absurd z (noA b), e0.bs, e0.bsz, fun b _ _ => noA b, fun b z => absurd z (noA b), e0.funs, e0.frf⟩,
      rfl, e0.bare, Un.kept hk, ⟨_, hns, fun i y v' h1 h2 h3 => ?_⟩, fun y c h => ?_, e0.hok.fresh (Nat.le_refl _), fun y c h => ?_, fun p hp => absurd (show p ∈ ([] : List (Addr × Obj)) from hp) (by simp), e0.hok.kept hk, rfl⟩
    · have hy' : scope.names.lookup y = some .cell ∨ scope.names.lookup y = some .free := hy
      rcases hy' with hy' | hy'
      · exact absurd rfl (hcell _ (PySem.mem_of_lookup hy'))
      · rw [hfree y hy']; exact ⟨cc, hcc⟩
    · have hb1 : ([(("self" : Str), Value.ref a), (fld, u2)].reverse).lookup ("self" : Str) = some (.ref a) := by
        show List.lookup ("self" : Str) [(fld, u2), (("self" : Str), Value.ref a)] = _
        rw [List.lookup, show (("self" : Str) == fld) = false by simpa using hne.symm, List.lookup, show (("self" : Str) == ("self" : Str)) = true by decide +kernel]
      have hb2 : ([(("self" : Str), Value.ref a), (fld, u2)].reverse).lookup fld = some u2 := by
        show List.lookup fld [(fld, u2), (("self" : Str), Value.ref a)] = _
        rw [List.lookup, show (fld == fld) = true by simp]
      match i with
      | 0 =>
        have h1' : ("self" : Str) = y := Option.some.inj (show some ("self" : Str) = some y from h1)
        have h2' : V.ref a = v' := by simpa using h2
        subst h1'; subst h2'
        exact ⟨.ref a, rfl, .inl ⟨hls, hb1⟩⟩
      | 1 =>
        have h1' : fld = y := Option.some.inj (show some fld = some y from h1)
        have h2' : v = v' := by simpa using h2
        subst h1'; subst h2'
        exact ⟨u2, r2, .inl ⟨hlf, hb2⟩⟩
      | i + 2 =>
        have : ([some (V.ref a), some v] : List (Option V))[i + 2]? = none := by simp
        rw [this] at h2; cases h2
    · obtain ⟨_, rfl⟩ := hcl h
      exact ⟨some (.ref C), _, hk _ _ (KX _ _ lkc), rfl⟩
    · obtain ⟨_, rfl⟩ := hcl h
      exact (e0.bs _ _ bcc).2
  have hself : ([(("self" : Str), Value.ref a), (fld, u2)].reverse).lookup ("self" : Str) = some (.ref a) := by
    show List.lookup ("self" : Str) [(fld, u2), (("self" : Str), Value.ref a)] = _
    rw [List.lookup, show (("self" : Str) == fld) = false by simpa using hne.symm, List.lookup, show (("self" : Str) == ("self" : Str)) = true by decide +kernel]
  obtain ⟨nm, qn, N, bs, bm, sn, sub, ab, col, dd, k0, k1, k2, k3, k5, hC, hbm⟩ := F.O.cls
  have hcls : PySem.W.clsIn K C = some { name := nm, bases := bs, mro := .ref C :: bm, ns := N, qualname := qn, hasDict := true, slotNames := sn, subclasses := sub, abstract := ab, collection := col, hasDel := false } := by unfold PySem.W.clsIn; rw [hC] <;> rfl
  have keepB : ∀ b o, base.get? b = some o → h₀.get? b = some o := fun b o e => hk b o (e0.bs b o e).1
  obtain ⟨mb, hmb, hmbb⟩ := e0.mod.blt
  obtain ⟨t1, ho⟩ := exo_at I.hok ha
  have K0 : K.In h₀ := KX.keeps hk
  rw [hbody]
  show PySem.wpAt (model P w) X.A (.func _ env) (execs _ env) _ X.xe _
  refine PySem.ks_wpAt_execs_cons (PySem.ks_wpAt_Expr_any ?_ (hint _ _ _ _) (hsw env))
  obtain ⟨pl, hce⟩ := hcall env
  refine PySem.ks_wpAt_MethodCall (pl := pl) ?_ hce
  refine PySem.ks_wpAt_super_base (f := fI) (cc := cda) hks hkc (by decide +kernel) rfl (hk _ _ (KX _ _ lk)) rfl har rfl (hk _ _ (KX _ _ lkd)) rfl hvs hfile htop ?_
  refine PySem.W.ks_loadName_global hsc hks (loadGlobal_builtin (env := env) (e0.mod.glob.keeps keepB) hS (hmb.keeps keepB) ((hmbb _ (by decide +kernel)).trans (by decide +kernel : bootBuiltins "super" = some (.type "super"))) ⟨rfl, ?_⟩)
  refine wpAny_loadName_free hsc hkc hcc ⟨_, hk _ _ (KX _ _ lkc), rfl⟩ ?_
  rw [harn]
  refine wpAny_loadName_local hsc hls hns hself ?_
  refine PySem.ks_wpAny_isType_cls (K0 _ _ hC) rfl ⟨rfl, ?_⟩
  refine PySem.ks_wpAny_call_super (K0 _ _ hC) rfl ho rfl (fun c z => by cases z) (PySem.W.looks_mroIn K0 F.mro) (fun h1 e1 kp1 => ?_)
  have K1 : K.In h1 := K0.keeps kp1
  have IA : PySem.W.InstAt h1 a _ C none := ⟨kp1 _ _ ho, rfl, rfl, trivial⟩
  refine PySem.W.kxs_getMethod PySem.W.kxs_ValueError e1 (PySem.W.looks_opaque K1 F.opq) (l₀ := .ref C :: bm) ((PySem.W.looks_clsIn K1 hcls).andThen .now) rfl K1 ?_ (IA.type.andThen (PySem.W.looks_subIn K1 F.sub)) (PySem.W.ks_ne K1 IA hcls) (by decide +kernel) ?_
  · have := F.sup
    unfold PySem.W.ks_superIn at this
    rw [hcls] at this
    exact this
  have hst : backTo p4 (starEach [.Constant (.str tx) kd p3] env) = [(false, eval (.Constant (.str tx) kd p3) env)] := by rfl
  rw [hst]
  refine PySem.W.kxs_callWith (i := "ValueError.__init__") (x := a) rfl (evalArgs_plain (Calls.spliced_cons (Calls.Constant_str (k := kd) (pos := p3) (Calls.spliced_nil ⟨Heap.get?_push_at rfl rfl, ?_⟩))))
  have kp2 : ∀ b o, h₀.get? b = some o → (h1.push (PySem.W.kxs_mw "ValueError.__init__" a)).get? b = some o := fun b o e => Heap.get?_push_of_some _ (kp1 b o e)
  refine call_vw (s := ⟨h1.push (PySem.W.kxs_mw "ValueError.__init__" a), _, _, _, _⟩) (kp2 _ _ (K0 _ _ hC)) (kp2 _ _ ho) (Heap.get?_push_at rfl rfl) (by show 1 ≤ sizeLine; decide) (fun h' t2 kp3 hx => ?_)
  have I2 : Inv X [] [some (.ref a), some v] H { s with heap := h1.push (PySem.W.kxs_mw "ValueError.__init__" a), toks := s.toks + 2 } := I.kept (t' := s.toks + 2) kp2
  have J := fun tk : Nat => I2.write (t' := tk) (x := a) (e := a) (o := exo a C none) (by rw [ha]; exact True.intro) (.inl rfl) kp3 ⟨_, hx⟩ (exo_ok hx)
  have eu : upd H a (exo a C none) = H := by
    funext b
    by_cases hb : b = a
    · rw [hb, upd_same, ha]
    · rw [upd_ne hb]
  rw [eu] at J
  refine wpAt_of_wpAny ?_
  have PSS : PSs X [.Assign [.Attribute (.Name "self" q1) fld q2] (.Name fld q3) q4] (tOst K fld (tVar 0) (tVar 1)) := pss_one (ps_ost (pv 0 (hv := .inl hls)) (pv 1 (hv := .inl hlf) (hd := hdn) (hcd := hdc)) (hsw2 env))
  refine wpAny_mono (PSS.run [] _ _ H { nx := fun _ H' => Q .non H', rt := fun _ _ => False, bk := fun _ _ => False, ct := fun _ _ => False } (J _) ?_) (fun fl s' hs => ?_) (fun e s' z => z)
  · exact ⟨v, rfl, .ref a, rfl, a, C, rfl, F.O, F.noF, .inl ⟨ha, fun dx n ne => q dx n ne⟩⟩
  · cases fl with
    | next =>
      obtain ⟨σ', H', J', hq⟩ := hs
      exact ⟨.non, H', J'.os, J'.bare, J'.base, J'.hok, rfl, hq⟩
    | brk => exact False.elim (by obtain ⟨_, _, _, z⟩ := hs; exact z)
    | cont => exact False.elim (by obtain ⟨_, _, _, z⟩ := hs; exact z)
    | ret u => exact False.elim (by obtain ⟨_, _, _, _, _, z⟩ := hs; exact z)
end
end RG

/-! defs whose promise holds where something more is known of what runs around them (no repr under way), or less (an exception may be handled) -/
namespace RG
open PySem PySem.Spec PyProof.Rows L2 PySem.Calls
/-- calm or not: the context of such a def's body -/
def cxB (b : Bool) (P : Program) (w : World) (K : PySem.W.Frag) (mg : Str → Option Value) (base : Heap) (N : List Str) (qual : Str) (scope : Scope) (f : Addr) (cd : Value) (A : Around) (outer : List Env) (s : Shared) (H : Hp) : Cx :=
  { cxOf CX0 P w K mg base N qual scope f cd A outer s H E0 with calm := b }
structure FnA (G : Around → Prop) (P : Program) (w : World) (K : PySem.W.Frag) (mg : Str → Option Value) (base : Heap) (f : Addr) (fd : FuncData) (ps : List Str) (sp : Sp) : Prop where
  len : ∀ vs H Q, sp vs H Q E0 → vs.length = ps.length
  run : ∀ (A : Around) (outer : List Env) (s : Shared) (H : Hp) (args : Args) (us : List Value) (vs : List V) (Q : VK), G A → Env0 P w K mg base A outer s H → BindsTo s fd args (ps.zip us) → Vals vs us → sp vs H Q E0 →
    codeAny (model P w) A (.call (.ref f) args) (CR CX0 outer P w H s Q E0) s
section
variable {G : Around → Prop} {P : Program} {w : World} {K : PySem.W.Frag} {mg : Str → Option Value} {base : Heap} {x qual : Str} {params : Arguments} {body : List Stmt} {scope : Scope} {f : Addr} {fd : FuncData}
theorem okAc (b : Bool) {N ps : List Str} {sp : Sp} (F : FunD K x qual params body scope [] [] f fd) (S : FnScope N ps scope) (len : ∀ vs H Q, sp vs H Q E0 → vs.length = ps.length) (hd : ∀ A, G A → A.depth < recursionLimit) (hh : b = true → ∀ A, G A → A.handled = none)
    (hbody : ∀ (cdv : Value) (A : Around) (outer : List Env) (s : Shared) (H : Hp) (vs : List V) (Q : VK), fd.code = cdv → G A → sp vs H Q E0 →
      ∃ t, PSs (cxB b P w K mg base N qual scope f cdv A outer s H) body t ∧ t { nx := fun _ H' => Q .non H', rt := Q } (start N vs) H) : FnA G P w K mg base f fd ps sp := by
  obtain ⟨oc, od, dV, kV, doc, pm, an, cdv, ct, osl, efd, lk, hcd, _, _⟩ := F.ex
  subst efd
  refine ⟨len, fun A outer s H args us vs Q gA e0 hb rv hsp => ?_⟩
  have hl := len _ _ _ hsp
  have kIn : K.In s.heap := e0.mod.kin.keeps fun c o e => (e0.bs c o e).1
  have noL : s.heap.NoLimit := e0.mod.nolimit.keeps fun c o e => (e0.bs c o e).1
  have kinds : ∀ y ∈ ps.zip us, scope.names.lookup y.1 = some .local ∨ (scope.names.lookup y.1 = some .cell ∧ ((cellsFrom (s.heap.objs.size + 1) scope.names []).lookup y.1).isSome = true) := by
    rintro ⟨n, u⟩ hy
    exact (S.par n (List.of_mem_zip hy).1).imp id fun z => ⟨z, PySem.W.cellsFrom_some _ _ _ (.inl z)⟩
  refine codeAny_call_function (hd A gA) (kIn _ _ lk) rfl S.co S.gen rfl (PySem.W.codeRec_of kIn hcd) (hb _ _ _ _ (wpAny_newFunctionEnv_cells S.kind kinds fun env he s1 y => ?_))
  subst he
  refine ⟨noL.keeps y.toInCall.keep, codeAny_func ?_⟩
  obtain ⟨t, ht, hq⟩ := hbody cdv A outer s H vs Q rfl gA hsp
  -- entered as if nothing were handled
  have e1 : Env0 P w K mg base { A with handled := none } outer s H := ⟨e0.frames, e0.mod, e0.bs, e0.bsz, e0.funs, e0.frf, e0.hok, e0.bare⟩
  have I0 := inv_start (CX := CX0) (E := E0) S (A := { A with handled := none }) rfl e1 hl rv y
  have ok : (cxB b P w K mg base N qual scope f cdv A outer s H).Ok :=
    ⟨I0.ok.mod, I0.ok.kind, I0.ok.glob, I0.ok.blt, I0.ok.above, I0.ok.inj, I0.ok.has, I0.ok.cab, fun z => hh z A gA, Around.frames_deeper e0.frames, I0.ok.stk, I0.ok.exf, I0.ok.bs, I0.ok.bsz, I0.ok.noex, I0.ok.exfs, I0.ok.funs, I0.ok.frf⟩
  have I : Inv (cxB b P w K mg base N qual scope f cdv A outer s H) [] (start N vs) H s1 := ⟨ok, I0.os, I0.bare, I0.base, I0.loc, I0.cell, I0.free, I0.freeC, I0.pin, I0.hok, I0.len⟩
  refine wpAny_mono (ht.run [] s1 (start N vs) H _ I hq) (fun fl s2 z => ?_) fun _ _ z => z
  cases fl with
  | ret u =>
    obtain ⟨v, σ', H', J, ru, q⟩ := z
    exact ⟨v, H', J.os, J.bare, J.base, J.hok, ru, q⟩
  | next =>
    obtain ⟨σ', H', J, q⟩ := z
    exact ⟨.non, H', J.os, J.bare, J.base, J.hok, rfl, q⟩
  | brk => obtain ⟨_, _, _, q⟩ := z; exact q.elim
  | cont => obtain ⟨_, _, _, q⟩ := z; exact q.elim
theorem okA (b : Bool) {N ps : List Str} {sp : Sp} (F : FunD K x qual params body scope [] [] f fd) (S : FnScope N ps scope) (len : ∀ vs H Q, sp vs H Q E0 → vs.length = ps.length) (hd : ∀ A, G A → A.depth < recursionLimit) (hh : b = true → ∀ A, G A → A.handled = none)
    (hbody : ∀ (cdv : Value) (A : Around) (outer : List Env) (s : Shared) (H : Hp) (vs : List V) (Q : VK), G A → sp vs H Q E0 →
      ∃ t, PSs (cxB b P w K mg base N qual scope f cdv A outer s H) body t ∧ t { nx := fun _ H' => Q .non H', rt := Q } (start N vs) H) : FnA G P w K mg base f fd ps sp :=
  okAc b F S len hd hh fun cdv A outer s H vs Q _ => hbody cdv A outer s H vs Q
/-- the name x stands for such a def -/
structure DfA (G : Around → Prop) (P : Program) (w : World) (K : PySem.W.Frag) (mg : Str → Option Value) (base : Heap) (x : Str) (ps : List Str) (sp : Sp) : Prop where
  ex : ∃ (f : Addr) (fd : FuncData), mg x = some (.ref f) ∧ FnA G P w K mg base f fd ps sp ∧ PySem.W.keepIn K (.ref f) = true ∧ Binds K fd ps []
end
section
variable {X : Cx} {G : Around → Prop} {x : Str} {ps : List Str} {sp : Sp} {p pos : Pos} {e : Expr} {es : List Expr} {t : TA}
theorem pe_dfA (D : DfA G X.prog X.w X.K X.mg X.base x ps sp) (gA : G X.A) (ha : PA X (e :: es) t) (hg : Gl X x := by rfl)
    (hdb : (x == ("__debug__" : Str)) = false := by decide) (he : starEach (e :: es) X.env = (false, eval e X.env) :: starEach es X.env := by rfl) (hpl : (backTo pos (starEach es X.env)).any (·.1) = false := by rfl) :
    PE X (.Call (.Name x p) (e :: es) [] pos) (tCall sp [] E0 t) := by
  obtain ⟨f, fd, hm, F, hk, hb⟩ := D.ex
  refine ⟨fun pins s σ H Q I h => ?_⟩
  refine wpAny_Call_Name_kw (ld_glob I hg hm (PySem.W.callWith_K (h₀ := X.base) I.ok.mod.kin hk (thn (ha.run pos pins s σ H _ I h) fun us s1 z => ?_) he hpl) hdb)
  obtain ⟨vs, H1, I1, r, q⟩ := z
  rw [List.append_nil] at q
  have b := hb s1 us I1.kIn (by rw [List.append_nil, ← r.length]; exact F.len _ _ _ q)
  rw [List.append_nil] at b
  refine ⟨I1.kIn, wpAny_call (codeAny_mono (F.run X.A X.stack s1 H1 ⟨us, []⟩ us vs Q gA I1.env0 b r q) fun r' s2 z => ?_)⟩
  cases r' with
  | error er => exact False.elim z
  | ok fl =>
    cases fl with
    | ret u => exact I1.after z
    | next => exact False.elim z
    | brk => exact False.elim z
    | cont => exact False.elim z
end
/-- room where an exception may be handled -/
def GH (k : Nat) (A : Around) : Prop := L2H.RoomH k A
/-- room where no repr is under way -/
def GG (k : Nat) (A : Around) : Prop := Room k A ∧ A.guards = some []
theorem GH.depth {k : Nat} {A : Around} (h : GH k A) : A.depth < recursionLimit := L2H.RoomH.depth h
theorem GG.depth {k : Nat} {A : Around} (h : GG k A) : A.depth < recursionLimit := h.1.depth
theorem GH.deeper {k : Nat} {A : Around} (h : GH (k + 1) A) (env : Env) : GH k (A.deeper env) := L2H.RoomH.deeper h env
theorem GG.deeper {k : Nat} {A : Around} (h : GG (k + 1) A) (env : Env) : GG k (A.deeper env) := ⟨h.1.deeper env, by
  show Around.guards (A.deeper env) = some []
  have := h.2
  simp [Around.deeper, this]⟩
theorem GH.mono {j k : Nat} {A : Around} (h : GH k A) (hj : j ≤ k) : GH j A := L2H.RoomH.mono h hj
/-- the end of making an own error -/
theorem mkO_end {C : Addr} {fld : Str} {v : V} {H1 : Hp} {Q : XK} (q : ∀ d, H1 d = none → Q (.ref C) (some d) (upd H1 d (.xd [(fld, v)]))) :
    [v].length ≤ 1000 ∧ ∀ a, H1 a = none → spSup C fld (.ref a :: ([v] ++ [])) (upd H1 a (exo a C none))
      (fun v' H2 => v' = .non ∧ ∃ (d : Addr) (fs : List (Str × V)), H2 a = some (exo a C (some d)) ∧ H2 d = some (exd d fs) ∧ H1 d = none ∧ Q (.ref C) (some d) (upd (del H2 a) d (.xd fs))) (fun _ _ _ => False) := by
  refine ⟨by simp, fun a na => ⟨a, v, rfl, upd_same, fun dx n ne => ⟨rfl, dx, [(fld, v)], upd_same, by rw [upd_ne ne, upd_same], ?_, ?_⟩⟩⟩
  · rw [upd_ne ne] at n; exact n
  · rw [upd_ne ne] at n
    have e : upd (del (upd (upd (upd H1 a (exo a C none)) dx (exd dx [(fld, v)])) a (exo a C (some dx))) a) dx (.xd [(fld, v)]) = upd H1 dx (.xd [(fld, v)]) := by
      funext b
      by_cases h1 : b = dx
      · subst h1; rw [upd_same, upd_same]
      · rw [upd_ne h1, upd_ne h1]
        by_cases h2 : b = a
        · subst h2; rw [del_same, na]
        · rw [del_ne h2, upd_ne h2, upd_ne h1, upd_ne h2]
    rw [e]
    exact q dx n
/-- an own error x with one field, at C: made, raised, read -/
structure Rz (P : Program) (w : World) (K : PySem.W.Frag) (mg : Str → Option Value) (base : Heap) (x : Str) (C : Addr) (fld : Str) : Prop where
  gC : mg x = some (.ref C)
  O : OexC K C
  ini : ∃ (fI : Addr) (fd : FuncData), PySem.W.findIn K (.ref C) "__init__" = some (some (.ref fI)) ∧ PySem.W.typeIn K (.ref fI) = some (.type "function") ∧ FnOk P w K mg base CX0 0 fI fd ["self", fld] (spSup C fld) ∧ Binds K fd ["self", fld] []
  noF : PySem.W.findIn K (.ref C) fld = some none
  ga : PySem.W.findIn K (.ref C) "__getattribute__" = some (some (.builtin "BaseException.__getattribute__"))
  gg : PySem.W.findIn K (.ref C) "__getattr__" = some none
  hdC : PySem.W.hasDictIn K C = true
  te : PySem.W.exmOne K (.ref C) (.ref C) = some true
section
variable {X : Cx} {k : Nat} {x : Str} {C : Addr} {fld : Str} {a e : Expr} {ta : TA} {te : TE} {W : WX} {p pos pos2 : Pos}
theorem ps_raiseX (hc : X.calm = true) (Z : Rz X.prog X.w X.K X.mg X.base x C fld) (hr : Room k X.A) (tk : Takes X W) (ha : PA X [a] ta) (hk : 1 ≤ k := by first | decide | omega) (hg : Gl X x := by rfl)
    (hdb : (x == ("__debug__" : Str)) = false := by decide) (he : starEach (a :: []) X.env = (false, eval a X.env) :: starEach [] X.env := by rfl) (hpl : (backTo pos (starEach [] X.env)).any (·.1) = false := by rfl) :
    PS X (.Raise (some (.Call (.Name x p) [a] [] pos)) none pos2) (fun _ σ H => tMkO C (spSup C fld) [] ta σ H fun cls d H' => W cls d σ H') := by
  obtain ⟨fI, fd, h1, h2, F, b⟩ := Z.ini
  exact ps_raise hc tk (pmk_oex Z.O h1 h2 F (hr.mono hk) b .nil pass0 hg Z.gC ha hdb he hpl)
theorem s_mkO {σ : L2.St} {H : Hp} {Q : XK} (h : ta σ H fun vs H1 => vs.length ≤ 1000 ∧ ∀ a, H1 a = none → spSup C fld (.ref a :: (vs ++ [])) (upd H1 a (exo a C none))
  (fun v H2 => v = .non ∧ ∃ (d : Addr) (fs : List (Str × V)), H2 a = some (exo a C (some d)) ∧ H2 d = some (exd d fs) ∧ H1 d = none ∧ Q (.ref C) (some d) (upd (del H2 a) d (.xd fs))) (fun _ _ _ => False)) : tMkO C (spSup C fld) [] ta σ H Q := h
/-- the field of the error that the suite holds -/
def tByX (C : Addr) (fld : Str) (a : Addr) (cls : Value) (d : Option Addr) (te : TE) : TE := fun σ H Q => te σ H fun x H1 => x = .ref a ∧ cls = .ref C ∧ ∃ (dd : Addr) (v : V), d = some dd ∧ H1 dd = some (.xd [(fld, v)]) ∧ Q v H1
theorem pe_byX {b : Addr} {oe : Obj} {cls : Value} {d : Option Addr} {pn : List (Addr × Obj)} (Z : Rz X.prog X.w X.K X.mg X.base x C fld) (hz : Zc cls d oe) (hf : ∃ vs, oe.data = .fields vs) (he : PE (X.suite b ((b, oe) :: pn)) e te)
    (hb : attributeBase e fld X.env (eval e X.env) = eval e X.env := by rfl) : PE (X.suite b ((b, oe) :: pn)) (.Attribute e fld pos) (tByX C fld b cls d te) := by
  refine ⟨fun pins s σ H Q I h => attr_of hb (thn (he.run pins s σ H _ I h) fun u s1 z => ?_)⟩
  obtain ⟨y, H1, I1, ry, ey, ec, dd, v, ed, ea, q⟩ := z
  subst ey
  obtain rfl : u = Value.ref b := ry
  subst ec
  subst ed
  have pn1 := (I1.pin (b, oe) (List.mem_append_left _ List.mem_cons_self)).1
  obtain ⟨vs, hd⟩ := hf
  obtain ⟨mA, hns, hr⟩ : ObjOk X.prog X.w H1 s1.heap dd (.xd [(fld, v)]) := I1.hok dd _ ea
  obtain ⟨od, ho, hl⟩ := lookIn_ns hns
  have l : List.lookup fld [(fld, v)] = some v := by simp [List.lookup]
  obtain ⟨u', hu, ru⟩ := RelO.some_of (v := v) (o := mA fld) (by rw [← l]; exact hr fld)
  have J : PySem.W.InstAt s1.heap b oe C (some od) := ⟨pn1, hz.1, by unfold PySem.W.notCls; rw [hd] <;> rfl, by rw [hz.2]; exact ho⟩
  exact HandSPX.exc_get I1.kIn J Z.ga Z.gg Z.O.exC (PySem.W.findObj_own Z.hdC Z.noF rfl (by rw [hl, hu])) (handed_of ru) ⟨v, H1, I1.tok _, ru, q⟩
end
end RG

/-! x(lambda: body, thing): the def that got both runs the lambda in a try, its suite reads the thing and the error -/
namespace RG
open PySem PySem.Spec PyProof.Rows L2 PySem.Calls LamX
/-- the taker's context -/
abbrev cxT (X : Cx) (Ng : List Str) (qg : Str) (sg : Scope) (g : Addr) (cdg : Value) (s : Shared) (H : Hp) : Cx := cxOf CX0 X.prog X.w X.K X.mg X.base Ng qg sg g cdg X.A X.stack s H E0
section
variable {X : Cx} {pins : List (Addr × Obj)} {σ : L2.St} {H : Hp} {s : Shared} {Ng : List Str} {qg : Str} {sg : Scope} {g f c1 : Addr} {cdg pm ctv : Value} {params : Arguments} {body : Expr} {scope : Scope} {k i : Nat} {a : Str} {pn : List (Addr × Obj)} {xe : Value → Shared → Prop} {W : WX} {t : XK → TE} {p1 p2 : Pos}
/-- the lambda called by its name: what it lets out reaches W at the very slots of the call -/
theorem act2 (J : Inv X pins σ H s) (L : LamS X.env.scope scope) (ho : s.heap.get? f = some (PySem.W.kla_obj "<lambda>" (X.env.qual ++ "<lambda>") params body scope (cloFrom X.env.cells scope.names []) pm c1 ctv)) (hn : H f = none) (hst : f ∉ frs X.stack)
    (hbd : bindArgs (PySem.W.kla_fn "<lambda>" (X.env.qual ++ "<lambda>") params body scope (cloFrom X.env.cells scope.names []) pm (.ref c1) ctv) ⟨[], []⟩ = pure [])
    (tk : Takes ((cxT X Ng qg sg g cdg s H).tr pn xe) W) (hr : Room (k + 1) (X.A.deeper (envOfC qg sg s.heap.objs.size g cdg)))
    (hin : ∀ (A : Around) (outer : List Env) (s : Shared) (H : Hp) (E : XK), Room k (A.deeper (lamEnv X scope s.heap.objs.size f c1)) → PE (lamCx X A outer s H E scope f c1) body (t E))
    (hN : Ng[i]? = some a) (hv : Vis sg a) (hd : (a == ("__debug__" : Str)) = false) (hcd : (a == ("__classdict__" : Str)) = false) :
    PE ((cxT X Ng qg sg g cdg s H).tr pn xe) (.Call (.Name a p1) [] [] p2)
      (fun τ G R => τ[i]? = some (some (.ref f)) ∧ G c1 = some (CodeO c1 (X.env.qual ++ "<lambda>")) ∧ ∃ Ech : XK, (∀ cls d G', Ech cls d G' → W cls d τ G') ∧ t Ech σ G R) := by
  refine ⟨fun pz sz τ G R Iz z => ?_⟩
  obtain ⟨z1, z2, Ech, hW, zt⟩ := z
  have nm := (pe_var (X := (cxT X Ng qg sg g cdg s H).tr pn xe) (pos := p1) (i := i) hN hv hd hcd).run pz sz τ G (fun v G1 => v = .ref f ∧ G1 = G) Iz ⟨.ref f, z1, rfl, rfl⟩
  refine wpAny_Call_Name_kw (thn nm ?_)
  rintro u sy ⟨v, G1, Iy, ru, ev, eG⟩
  rw [ev] at ru
  rw [eG] at Iy
  cases (show u = Value.ref f from ru)
  have fo := Iy.base.keep f _ ho hn hst (List.not_mem_nil)
  obtain ⟨⟨oc, vs, tc, g1, g2, g3⟩, _, _⟩ := Iy.hok c1 _ z2
  have away : Un (frs X.stack) [] H G s.heap sy.heap := Iy.base
  refine PySem.W.callWith_F0 ⟨_, _, _, _, fo⟩ ?_
  have runs : codeAny (model X.prog X.w) (X.A.deeper (envOfC qg sg s.heap.objs.size g cdg)) (.call (.ref f) ⟨[], []⟩)
      (CR (L2.CX X.prog X.w) (envOfC qg sg s.heap.objs.size g cdg :: X.stack) X.prog X.w G sy R Ech) sy := by
    apply PySem.W.kla_callFunE hr.depth fo rfl L.co L.gen rfl ⟨c1, oc, vs, tc, rfl, g1, g2, g3⟩
    rw [hbd]
    apply wpAny_pure
    refine wpAny_newFunctionEnv (fun y m => (L.own y m).2) (fun y m => absurd m List.not_mem_nil) (fun hx nsx sbx => ⟨Iy.nolimit.fresh _ sbx, ?_⟩) L.kind
    have kp : ∀ b o, sy.heap.get? b = some o → hx.get? b = some o := fun b o e => sbx.extBut b o (Nat.ne_of_lt (Heap.lt_size e)) (Heap.get?_push_of_some _ e)
    show codeAny _ _ (.expr body (lamEnv X scope sy.heap.objs.size f c1)) _ _
    have I2 : Inv (lamCx X (X.A.deeper (envOfC qg sg s.heap.objs.size g cdg)) (envOfC qg sg s.heap.objs.size g cdg :: X.stack) sy G Ech scope f c1) [] σ G { sy with heap := hx, toks := sy.toks + ([] : List (Str × Value)).length } := lam_start2 J L Iy.env0 hr.hd away nsx kp
    apply PySem.W.kla_codeExpr
    refine wpAny_mono ((hin _ _ sy G _ (hr.deeper _)).run [] _ σ G R I2 zt) ?_ (fun _ _ x => x)
    rintro v' sw ⟨w', G', Iw, rw', q'⟩
    exact ⟨w', G', Iw.os, Iw.bare, Iw.base, Iw.hok, rw', q'⟩
  refine wpAny_call (codeAny_mono runs ?_)
  intro r sw hq
  match r, hq with
  | .error e, hq => exact tk e sw (XE.of_call Iy hW hq)
  | .ok (.ret u), hq => exact Iy.after hq
  | .ok .next, hq => exact False.elim hq
  | .ok .brk, hq => exact False.elim hq
  | .ok .cont, hq => exact False.elim hq
end
/-- the taker: a calls the lambda (slot 0); slot 1 holds the thing -/
def Gives2 (X : Cx) (Ng : List Str) (x : Str) (sg : Scope) (g : Addr) (cdg : Value) (bg : List Stmt) (a : Str) (q : Str) (T2 : V → (XK → Hp → VK → Prop) → Hp → VK → Prop) : Prop :=
  ∀ (f c1 : Addr) (s : Shared) (H : Hp) (v : V) (Q : VK) (tl : XK → Hp → VK → Prop), Room 3 (X.A.deeper (envOfC x sg s.heap.objs.size g cdg)) →
    (∀ (W : WX) (pn : List (Addr × Obj)) (xe : Value → Shared → Prop) (p1 p2 : Pos), Takes ((cxT X Ng x sg g cdg s H).tr pn xe) W →
      PE ((cxT X Ng x sg g cdg s H).tr pn xe) (.Call (.Name a p1) [] [] p2) (fun τ G R => τ[0]? = some (some (.ref f)) ∧ G c1 = some (CodeO c1 q) ∧ ∃ Ech : XK, (∀ cls d G', Ech cls d G' → W cls d τ G') ∧ tl Ech G R)) →
    H c1 = some (CodeO c1 q) → T2 v tl H Q → ∃ t, PSs (cxT X Ng x sg g cdg s H) bg t ∧ t { nx := fun _ H' => Q .non H', rt := Q } (L2.start Ng [.ref f, v]) H
def tMet (T : List (Addr × Str)) (i : Nat) (T2 : V → (XK → Hp → VK → Prop) → Hp → VK → Prop) (t : XK → TE) : TE := fun σ H Q => Tabs T H ∧ ∃ v, σ[i]? = some (some v) ∧ ∀ H1, ExtN H H1 → Tabs T H1 → T2 v (fun E H' Q' => t E σ H' Q') H1 Q
section
variable {X : Cx}
theorem pe_met {T : List (Addr × Str)} {T2 : V → (XK → Hp → VK → Prop) → Hp → VK → Prop} {x a b y : Str} {g c P : Addr} {k i : Nat} {pg : Arguments} {bg : List Stmt} {sg : Scope} {dV kV doc pm cdv ct oc : Value} {an od : Option Addr} {osl : Array (Option Value)} {Ng : List Str}
    {params : Arguments} {body : Expr} {scope : Scope} {t : XK → TE} {p lpos ypos pos : Pos} (hm : X.mg x = some (.ref g)) (hkp : PySem.W.keepIn X.K (.ref g) = true) (lk : X.K.lookup g = some ⟨oc, od, .func (PySem.W.fnOf x x pg bg sg dV kV doc pm an cdv ct), osl⟩)
    (hcg : PySem.W.codeIn X.K cdv x = true) (hbi : L2.Binds X.K (PySem.W.fnOf x x pg bg sg dV kV doc pm an cdv ct) [a, b] []) (Sg : FnScope Ng [a, b] sg) (hNg : Ng[0]? = some a) (hva : Vis sg a) (hG : Gives2 X Ng x sg g cdv bg a (X.env.qual ++ "<lambda>") T2)
    (TB : TabB X.base X.mg c P) (hcode : X.env.code = .ref c) (hmT : (P, X.env.qual ++ "<lambda>") ∈ T) (hu : ∀ p ∈ T, p.1 = P → p.2 = X.env.qual ++ "<lambda>") (hr : Room (k + 4) X.A) (L : LamS X.env.scope scope) (hdef : defaultsOf params X.env = ([], []))
    (hbd : ∀ (q : Str) (cl : List (Str × Addr)) (pm cv ctv : Value), bindArgs (PySem.W.kla_fn "<lambda>" q params body scope cl pm cv ctv) ⟨[], []⟩ = pure [])
    (hin : ∀ (A : Around) (outer : List Env) (s : Shared) (H : Hp) (E : XK) (f c1 : Addr), Room (k + 2) (A.deeper (lamEnv X scope s.heap.objs.size f c1)) → PE (lamCx X A outer s H E scope f c1) body (t E))
    (hy : X.N[i]? = some y) (hvy : Vis X.env.scope y) (hg : Gl X x := by rfl) (hdb : (x == ("__debug__" : Str)) = false := by decide) (hd : (a == ("__debug__" : Str)) = false := by decide) (hcd : (a == ("__classdict__" : Str)) = false := by decide) (hdy : (y == ("__debug__" : Str)) = false := by decide) (hcy : (y == ("__classdict__" : Str)) = false := by decide) (hsk : X.stack = X.env :: X.outer := by rfl) (hfm : X.env.frame = some X.env.locals := by rfl) :
    PE X (.Call (.Name x p) [.Lambda params body scope lpos, .Name y ypos] [] pos) (tMet T i T2 t) := by
  refine ⟨fun pins s σ H Q I ⟨hT, v, hσ, h⟩ => ?_⟩
  refine wpAny_Call_Name_kw (ld_glob I hg hm ?_ hdb)
  refine PySem.W.callWith_K (h₀ := X.base) I.ok.mod.kin hkp ?_ (by rfl) (by rfl)
  show wpAny _ _ (spliced ((false, eval (.Lambda params body scope lpos) X.env) :: backTo pos (starEach [.Name y ypos] X.env))) _ _ s
  refine Calls.spliced_cons (lam_make2 I TB hcode hmT hu hT hdef (L.has I.ok) fun f c1 pm1 ctv H1 s1 I1 eN T1 hf hfn hfr hco => ?_)
  -- the lambda's object stays while the name is read
  have Ip : Inv X ((f, PySem.W.kla_obj "<lambda>" (X.env.qual ++ "<lambda>") params body scope (cloFrom X.env.cells scope.names []) pm1 c1 ctv) :: pins) σ H1 s1 := I1.pins_of fun z hz => by
    rcases List.mem_cons.mp hz with e | e
    · subst e
      have efr : frs X.stack = X.env.locals :: frs X.outer := by
        rw [hsk]
        unfold frs
        rw [List.filterMap_cons, hfm]
      rw [efr] at hfr
      exact ⟨hf, hfn, fun e2 => hfr (List.mem_cons.mpr (.inl e2)), fun e2 => hfr (List.mem_cons_of_mem _ e2), fun u e2 => by cases e2⟩
    · exact I1.pin z (List.mem_append_right _ e)
  refine Calls.spliced_cons (thn ((pe_var (X := X) (pos := ypos) (i := i) hy hvy hdy hcy).run _ s1 σ H1 (fun w G => w = v ∧ G = H1) Ip ⟨v, hσ, rfl, rfl⟩) ?_)
  rintro u s2 ⟨w, G, I2, ru, ew, eG⟩
  subst ew
  subst eG
  have hf2 := (I2.pin (f, PySem.W.kla_obj "<lambda>" (X.env.qual ++ "<lambda>") params body scope (cloFrom X.env.cells scope.names []) pm1 c1 ctv) (List.mem_append_right _ List.mem_cons_self)).1
  have I3 : Inv X pins σ G s2 := I2.pins_of fun z hz => I2.pin z (List.mem_append_right _ (List.mem_cons_of_mem _ hz))
  refine Calls.spliced_nil ⟨I3.kIn, ?_⟩
  have done : codeAny (model X.prog X.w) X.A (.call (.ref g) ⟨[.ref f, u], []⟩) (CR CX0 X.stack X.prog X.w G s2 Q E0) s2 := by
    refine run_ofS (N := Ng) (ps := [a, b]) (us := [.ref f, u]) (vs := [.ref f, w]) lk hcg Sg (k := k + 3) hr I3.env0 (hbi s2 [.ref f, u] I3.kIn rfl) (.cons rfl (.cons ru .nil)) rfl fun hr2 => ?_
    exact hG f c1 s2 G w Q (fun E H' Q' => t E σ H' Q') (hr2.mono (by omega)) (fun W pn xe p1 p2 tk => act2 (i := 0) I3 L hf2 hfn hfr (hbd _ _ _ _ _) tk (hr2.mono (by omega)) (fun A outer s H E hr3 => hin A outer s H E f c1 hr3) hNg hva hd hcd) hco (h G eN T1)
  refine wpAny_call (codeAny_mono done ?_)
  intro r s3 hq
  match r, hq with
  | .error e, hq => exact False.elim hq
  | .ok (.ret u), hq => exact I3.after hq
  | .ok .next, hq => exact False.elim hq
  | .ok .brk, hq => exact False.elim hq
  | .ok .cont, hq => exact False.elim hq
end
theorem tmem {P : Addr} {q : Str} : (P, q) ∈ [(P, q)] := List.mem_singleton.mpr rfl
theorem tuni {P : Addr} {q : Str} : ∀ p ∈ [(P, q)], p.1 = P → p.2 = q := fun p hp _ => by rw [List.mem_singleton.mp hp]
section
variable {X : Cx}
theorem pe_met1 {T2 : V → (XK → Hp → VK → Prop) → Hp → VK → Prop} {x a b y qq : Str} {g c P : Addr} {k i : Nat} {pg : Arguments} {bg : List Stmt} {sg : Scope} {dV kV doc pm cdv ct oc : Value} {an od : Option Addr} {osl : Array (Option Value)} {Ng : List Str}
    {params : Arguments} {body : Expr} {scope : Scope} {t : XK → TE} {p lpos ypos pos : Pos} (hm : X.mg x = some (.ref g)) (hkp : PySem.W.keepIn X.K (.ref g) = true) (lk : X.K.lookup g = some ⟨oc, od, .func (PySem.W.fnOf x x pg bg sg dV kV doc pm an cdv ct), osl⟩)
    (hcg : PySem.W.codeIn X.K cdv x = true) (hbi : L2.Binds X.K (PySem.W.fnOf x x pg bg sg dV kV doc pm an cdv ct) [a, b] []) (Sg : FnScope Ng [a, b] sg) (hNg : Ng[0]? = some a) (hva : Vis sg a) (hG : ∀ q, Gives2 X Ng x sg g cdv bg a q T2)
    (TB : TabB X.base X.mg c P) (hcode : X.env.code = .ref c) (hr : Room (k + 4) X.A) (L : LamS X.env.scope scope) (hdef : defaultsOf params X.env = ([], []))
    (hbd : ∀ (q : Str) (cl : List (Str × Addr)) (pm cv ctv : Value), bindArgs (PySem.W.kla_fn "<lambda>" q params body scope cl pm cv ctv) ⟨[], []⟩ = pure [])
    (hin : ∀ (A : Around) (outer : List Env) (s : Shared) (H : Hp) (E : XK) (f c1 : Addr), Room (k + 2) (A.deeper (lamEnv X scope s.heap.objs.size f c1)) → PE (lamCx X A outer s H E scope f c1) body (t E))
    (hy : X.N[i]? = some y) (hvy : Vis X.env.scope y) (hqq : X.env.qual = qq) (hg : Gl X x := by rfl) (hdb : (x == ("__debug__" : Str)) = false := by decide) (hd : (a == ("__debug__" : Str)) = false := by decide) (hcd : (a == ("__classdict__" : Str)) = false := by decide) (hdy : (y == ("__debug__" : Str)) = false := by decide) (hcy : (y == ("__classdict__" : Str)) = false := by decide) (hsk : X.stack = X.env :: X.outer := by rfl) (hfm : X.env.frame = some X.env.locals := by rfl) :
    PE X (.Call (.Name x p) [.Lambda params body scope lpos, .Name y ypos] [] pos) (tMet [(P, qq ++ "<lambda>")] i T2 t) := by
  rw [← hqq]
  exact pe_met hm hkp lk hcg hbi Sg hNg hva (hG _) TB hcode tmem tuni hr L hdef hbd hin hy hvy hg hdb hd hcd hdy hcy hsk hfm
end
/-- called by keywords alone, the parameters' order turned round -/
def revG {α : Type} (us ws : List α) : List α := us ++ ws.reverse
structure DfK (P : Program) (w : World) (K : PySem.W.Frag) (mg : Str → Option Value) (base : Heap) (CX : CXT) (k : Nat) (x : Str) (ps ks : List Str) (sp : Sp) : Prop where
  ex : ∃ (f : Addr) (fd : FuncData), mg x = some (.ref f) ∧ FnOk P w K mg base CX k f fd ps sp ∧ PySem.W.keepIn K (.ref f) = true ∧ KBinds K fd ps ks revG revG
section
variable {X : Cx} {x : Str} {k j : Nat} {ps ks : List Str} {sp : Sp} {p pos : Pos} {e : Expr} {es : List Expr} {kws : List Keyword} {t tk : TA}
theorem pe_dfk (D : DfK X.prog X.w X.K X.mg X.base CX0 j x ps ks sp) (hr : Room k X.A) (hkw : PK X kws tk) (hj : j ≤ k := by first | decide | omega) (hg : Gl X x := by rfl) (hdb : (x == ("__debug__" : Str)) = false := by decide)
    (hall : (backToKw pos (keywordEach kws X.env)).all (·.1.isSome) = true := by rfl) (hks : (backToKw pos (keywordEach kws X.env)).filterMap (·.1) = ks := by rfl)
    (hpl : ((backTo pos (starEach [] X.env)).any (·.1) || (backToKw pos (keywordEach kws X.env)).any (·.1.isNone)) = false := by rfl) : PE X (.Call (.Name x p) [] kws pos) (tCallK sp revG E0 tNil tk) := by
  obtain ⟨f, fd, hm, F, hk, hb⟩ := D.ex
  refine ⟨fun pins s σ H Q I h => ?_⟩
  refine wpAny_Call_Name_kw (ld_glob I hg hm ?_ hdb)
  refine PySem.W.callWith_KW0 (h₀ := X.base) I.ok.mod.kin hk hall (thn (hkw.run pos pins s σ H _ I h) ?_) hpl
  rintro ws s2 ⟨zs, H2, I2, rz, q2⟩
  refine ⟨I2.kIn, ?_⟩
  rw [hks]
  exact run_fnk (us := []) (vs := []) F (hr.mono hj) hb pass0 I2 .nil rz q2
theorem s_callK {σ : L2.St} {H : Hp} {Q : VK} (h : tk σ H fun zs H2 => sp (revG [] zs) H2 Q E0) : tCallK sp revG E0 tNil tk σ H Q := h
theorem pe_dfX {E : XK} (D : Df X.prog X.w X.K X.mg X.base (L2.CX X.prog X.w) j x ps sp) (hr : Room k X.A) (tk : Takes X (fun cls d _ H => E cls d H)) (ha : PA X (e :: es) t) (hj : j ≤ k := by first | decide | omega) (hg : Gl X x := by rfl)
    (hdb : (x == ("__debug__" : Str)) = false := by decide) (he : starEach (e :: es) X.env = (false, eval e X.env) :: starEach es X.env := by rfl) (hpl : (backTo pos (starEach es X.env)).any (·.1) = false := by rfl) :
    PE X (.Call (.Name x p) (e :: es) [] pos) (tCall sp [] E t) := by
  obtain ⟨f, fd, hm, F, hk, hb⟩ := D.ex
  exact pe_call F (hr.mono hj) hg hm hk hb .nil (passes_call tk fun _ _ _ _ h => h) ha hdb he hpl
end
/-! ### the order of a dict does not matter -/
theorem lookD_iff {n : Str} {v : PyData} : ∀ {ds : List (PyData × PyData)}, (ds.map (·.1)).Nodup → (lookD ds n = some v ↔ (PyData.str n, v) ∈ ds)
  | [], _ => by simp [lookD]
  | (k, u) :: r, nd => by
    have nd' : k ∉ r.map (·.1) ∧ (r.map (·.1)).Nodup := List.nodup_cons.mp nd
    have ih := lookD_iff (n := n) (v := v) nd'.2
    cases k with
    | str x =>
      show (if x = n then some u else lookD r n) = some v ↔ _
      by_cases e : x = n
      · subst e
        rw [if_pos rfl, List.mem_cons]
        refine ⟨fun z => .inl (by cases z; rfl), fun z => ?_⟩
        rcases z with z | z
        · cases z; rfl
        · exact absurd (List.mem_map_of_mem (f := (·.1)) z) nd'.1
      · rw [if_neg e, ih, List.mem_cons]
        exact ⟨.inr, fun z => z.elim (fun z => by cases z; exact absurd rfl e) id⟩
    | none => simpa [lookD] using ih
    | bool => simpa [lookD] using ih
    | int => simpa [lookD] using ih
    | list => simpa [lookD] using ih
    | tuple => simpa [lookD] using ih
    | dict => simpa [lookD] using ih
theorem lookD_perm {ds es : List (PyData × PyData)} (p : ds.Perm es) (nd : (ds.map (·.1)).Nodup) (n : Str) : lookD ds n = lookD es n := by
  have nd2 : (es.map (·.1)).Nodup := (p.map _).nodup_iff.mp nd
  apply Option.ext
  intro v
  rw [lookD_iff nd, lookD_iff nd2]
  exact p.mem_iff
theorem isMapB_perm {ds es : List (PyData × PyData)} {h h2 t : Int} {A B : Arcs} (p : ds.Perm es) (nd : (ds.map (·.1)).Nodup) : isMapB h A h2 B t (.dict ds) = isMapB h A h2 B t (.dict es) := by
  have e : imgD ds = imgD es := funext fun n => by unfold imgD; rw [lookD_perm p nd]
  have e2 : stepB h A B t ds = stepB h A B t es := funext fun n => by unfold stepB; rw [e]
  show (decide (ds.length = A.length) && _ && _) = (decide (es.length = A.length) && _ && _)
  rw [p.length_eq, e, e2]
end RG

/-! small facts for the judge of maps -/
namespace RG
open PySem PySem.Spec PyProof.Rows L2
theorem kvs_self : ∀ A : Arcs, LoKv (kvsD A) (kvsD A)
  | [] => .nil
  | a :: r => .cons (.tt (.cons (.leaf rfl rfl rfl) (.cons (.leaf rfl rfl rfl) .nil))) (kvs_self r)
theorem arcs_self (A : Arcs) : Lo (arcsD A) (arcsD A) := .dct (.refl _) (kvs_self A)
theorem arcs_sm0 {h : Int} {A : Arcs} (hh : h ≤ 100000) (o : ArcsOk h A) (hl : A.length ≤ 40) : sm (arcsD A) = true := arcs_sm hh o hl (arcs_self A)
theorem kvs_wt : ∀ A : Arcs, wtKv (kvsD A) = A.length
  | [] => rfl
  | a :: r => by
    show wt (arcD a.2) + wtKv (kvsD r) = _
    rw [kvs_wt r, List.length_cons, arcD, wt, wtAll, wtAll, wtAll, wt, wt]
    omega
theorem arcs_wt (A : Arcs) : wt (arcsD A) = 2 * A.length := by
  rw [arcsD, wt, kvs_wt, kvsD_len]; omega
theorem kvs_dep : ∀ A : Arcs, depKv (kvsD A) ≤ 1
  | [] => Nat.zero_le _
  | a :: r => by
    show max (max (dep (.str a.1)) (dep (arcD a.2))) (depKv (kvsD r)) ≤ 1
    have := kvs_dep r
    rw [arcD, dep, dep, depAll, depAll, depAll, dep, dep]
    omega
theorem arcs_dep (A : Arcs) : dep (arcsD A) ≤ 4 := by
  rw [arcsD, dep]
  have := kvs_dep A
  omega
theorem s_mk {C : Addr} {sp : Sp} {E : XK} {t : TA} {σ : L2.St} {H : Hp} {Q : VK} (h : t σ H fun vs H1 => ∀ x dx, H1 x = none → H1 dx = none → dx ≠ x → sp (.ref x :: (vs ++ [])) (upd (upd H1 dx (.own x)) x (.ins C dx [])) (fun v H2 => v = .non ∧ Q (.ref x) H2) E) : tMake C sp [] E t σ H Q := h
theorem tabs_nx {T : List (Addr × Str)} {H H' : Hp} {s : Addr} {n : Nat} (g : Nx [s] H H') (hs : Spr H s n) (t : LamX.Tabs T H) : LamX.Tabs T H' := by
  obtain ⟨x, y, z, es, _⟩ := hs.ex
  intro p hp
  obtain ⟨ps, h1, h2, h3⟩ := t p hp
  have ne : ∀ b o, H b = some o → (∀ xs, o ≠ .lst xs) → H' b = some o := fun b o e nl => g.kp b o (by rw [List.mem_singleton]; rintro rfl; rw [es] at e; cases e; exact nl _ rfl) e
  refine ⟨ps, ne _ _ h1 (fun _ z => by cases z), h2, fun pos cv hc => ?_⟩
  obtain ⟨c, e1, e2⟩ := h3 pos cv hc
  exact ⟨c, e1, ne _ _ e2 (fun xs z => by unfold LamX.CodeO at z; cases z)⟩
theorem Spr.put {H : Hp} {s D : Addr} {n : Nat} {o : HO} (h : Spr H s n) (ne : D ≠ s) : Spr (upd H D o) s n := by
  obtain ⟨x, y, z, e, q⟩ := h.ex
  exact ⟨x, y, z, by rw [upd_ne ne.symm]; exact e, q⟩
theorem ImAll.permM {α : Type} {f : α → PyData} {S : List Addr} {H : Hp} {xs ys : List V} (p : ys.Perm xs) : ∀ {es : List α}, ImAll S H xs (es.map f) → ∃ es' : List α, es'.Perm es ∧ ImAll S H ys (es'.map f) := by
  induction p with
  | nil => intro es h; exact ⟨es, .refl _, h⟩
  | cons x p ih =>
    intro es h
    cases es with
    | nil => cases h
    | cons e r =>
      cases h with
      | cons h1 h2 =>
        obtain ⟨r', pr, h3⟩ := ih h2
        exact ⟨e :: r', .cons _ pr, .cons h1 h3⟩
  | swap x y l =>
    intro es h
    cases es with
    | nil => cases h
    | cons e r =>
      cases h with
      | cons h1 h2 =>
        cases r with
        | nil => cases h2
        | cons e2 r2 =>
          cases h2 with
          | cons h3 h4 => exact ⟨e2 :: e :: r2, .swap _ _ _, .cons h3 (.cons h1 h4)⟩
  | trans p1 p2 ih1 ih2 =>
    intro es h
    obtain ⟨e1, q1, h1⟩ := ih2 h
    obtain ⟨e2, q2, h2⟩ := ih1 h1
    exact ⟨e2, q2.trans q1, h2⟩
theorem kv_perm {ds es : List (PyData × PyData)} (p : es.Perm ds) : okRKv es = okRKv ds ∧ rlKv es = rlKv ds ∧ PyData.depthKv es = PyData.depthKv ds ∧ smKv es = smKv ds := by
  induction p with
  | nil => exact ⟨rfl, rfl, rfl, rfl⟩
  | cons x p ih =>
    obtain ⟨k, v⟩ := x
    obtain ⟨h1, h2, h3, h4⟩ := ih
    exact ⟨by rw [okRKv, okRKv, h1], by rw [rlKv, rlKv, h2], by rw [PyData.depthKv, PyData.depthKv, h3], by rw [smKv, smKv, h4]⟩
  | swap x y l =>
    obtain ⟨k, v⟩ := x
    obtain ⟨k2, v2⟩ := y
    refine ⟨?_, ?_, ?_, ?_⟩
    · simp only [okRKv]; ac_rfl
    · simp only [rlKv]; omega
    · simp only [PyData.depthKv]; omega
    · simp only [smKv]; ac_rfl
  | trans _ _ a b => exact ⟨a.1.trans b.1, a.2.1.trans b.2.1, a.2.2.1.trans b.2.2.1, a.2.2.2.trans b.2.2.2⟩
theorem okd_perm {ds es : List (PyData × PyData)} (p : es.Perm ds) (o : Okd (.dict ds)) : Okd (.dict es) := by
  obtain ⟨h1, h2, h3, h4⟩ := kv_perm p
  obtain ⟨a, b, c, d⟩ := o
  refine ⟨?_, ?_, ?_, ?_⟩
  · rw [okR] at a ⊢; rw [h1]; exact a
  · rw [rl] at b ⊢; rw [h2]; exact b
  · rw [PyData.depth] at c ⊢; rw [h3]; exact c
  · rw [sm] at d ⊢; rw [h4, p.length_eq]; exact d
theorem isMapB_by {h h2 t : Int} {A B : Arcs} {ys zs : List Str} {d : PyData} (py : ys.Perm (A.map (·.1))) (pz : zs.Perm (B.map (·.1))) (ndA : (A.map (·.1)).Nodup) (ndB : (B.map (·.1)).Nodup) :
    isMapB h (arcsBy A ys) h2 (arcsBy B zs) t d = isMapB h A h2 B t d := by
  cases d with
  | dict ds =>
    have la : (arcsBy A ys).length = A.length := by unfold arcsBy; rw [List.length_map, py.length_eq, List.length_map]
    have lb : (arcsBy B zs).length = B.length := by unfold arcsBy; rw [List.length_map, pz.length_eq, List.length_map]
    rw [isMap_by (A := arcsBy A ys) (ys := ys) (by rw [arcsBy_names]), isMap_by (A := A) py, la, lb]
    have e : ys.all (stepB h (arcsBy A ys) (arcsBy B zs) t ds) = ys.all (stepB h A B t ds) := by
      rw [Bool.eq_iff_iff, List.all_eq_true, List.all_eq_true]
      refine forall_congr' fun n => forall_congr' fun hn => ?_
      unfold stepB
      cases imgD ds n with
      | none => rfl
      | some m =>
        dsimp only
        rw [arcsBy_names, arcOf_perm ndA (arcsBy_perm ndA py) (py.mem_iff.mp hn)]
        by_cases hm : m ∈ zs
        · rw [arcOf_perm ndB (arcsBy_perm ndB pz) (pz.mem_iff.mp hm), decide_eq_true hm, decide_eq_true (pz.mem_iff.mp hm)]
        · rw [decide_eq_false hm, decide_eq_false (fun z => hm (pz.mem_iff.mpr z))]
          rfl
    rw [e]
  | _ => rfl
/-- all but s and the tables stay -/
structure Nt (s : Addr) (H H' : Hp) : Prop where
  kp : ∀ b o, b ≠ s → H b = some o → (∀ ps, o ≠ .tbl ps) → H' b = some o
theorem Nt.rx {s : Addr} {H H' : Hp} (g : Nt s H H') : Rx [s] H H' := fun a u hs nf r => by
  rcases r with e | ⟨o, e⟩
  · exact .inl (g.kp a _ (by simpa using hs) e nf.tb)
  · exact .inr ⟨o, g.kp a _ (by simpa using hs) e (fun ps z => by cases z)⟩
theorem Nt.ofN {s : Addr} {H H' : Hp} (g : Nx [s] H H') : Nt s H H' := ⟨fun b o hb e _ => g.kp b o (by simpa using hb) e⟩
theorem Nt.ofE {s : Addr} {H H' : Hp} (g : LamX.ExtN H H') : Nt s H H' := ⟨fun b o _ e n => g b o e n⟩
theorem Nt.trans {s : Addr} {H H1 H2 : Hp} (a : Nt s H H1) (b : Nt s H1 H2) : Nt s H H2 := ⟨fun c o hc e n => b.kp c o hc (a.kp c o hc e n) n⟩
end RG

/-! facts carried to a later heap, in the form that the macros nx, fx ask -/
namespace RG
open PySem PySem.Spec PyProof.Rows L2
/-- none goes -/
def Th (H H' : Hp) : Prop := ∀ a, H a ≠ none → H' a ≠ none
theorem Th.refl (H : Hp) : Th H H := fun _ h => h
theorem Th.step {T : List Addr} {H H1 H' : Hp} (b : Nx T H1 H') (a : Th H H1) : Th H H' := fun c h => b.th c (a c h)
theorem Th.newP {H H1 : Hp} {p : Addr} {o : HO} (a : Th H H1) : Th H (upd H1 p o) := fun c h => by
  by_cases e : c = p
  · subst e; rw [upd_same]; simp
  · rw [upd_ne e]; exact a c h
section
variable {S T : List Addr} {H H' : Hp}
theorem no_to {p : Addr} (h : H' p = none) (g : Th H H') : H p = none := by
  cases e : H p with
  | none => rfl
  | some o => exact absurd h (g p (by rw [e]; simp))
theorem Al.to (h : Al S H) (g : Th H H') : Al S H' := fun a ha => g a (h a ha)
theorem Al.add {D : Addr} (h : H D ≠ none) (a : Al S H) : Al (D :: S) H := fun x hx => (List.mem_cons.mp hx).elim (fun e => by rw [e]; exact h) (a x)
theorem al_at {p : Addr} {o : HO} (e : H p = some o) : H p ≠ none := by rw [e]; simp
theorem upd_ne_none {p : Addr} {o : HO} : upd H p o p ≠ none := by rw [upd_same]; simp
theorem al_to {p : Addr} (h : H p ≠ none) (g : Th H H') : H' p ≠ none := g p h
theorem Spr.ne {s a : Addr} {n : Nat} (h : Spr H s n) (na : H a = none) : a ≠ s := fun z => h.al (by rw [← z]; exact na)
theorem Im.to {v : V} {d : PyData} (h : Im S H v d) (hT : ∀ a ∈ T, a ∈ S ∨ H a = none) (g : Nx T H H') : Im T H' v d := (Im.sub hT d h).nx g
theorem ImAll.to {v : List V} {d : List PyData} (h : ImAll S H v d) (hT : ∀ a ∈ T, a ∈ S ∨ H a = none) (g : Nx T H H') : ImAll T H' v d := (ImAll.sub hT d h).nx g
theorem ImKv.to {v : List (Key × V)} {d : List (PyData × PyData)} (h : ImKv S H v d) (hT : ∀ a ∈ T, a ∈ S ∨ H a = none) (g : Nx T H H') : ImKv T H' v d := (ImKv.sub hT d h).nx g
theorem RingR.to {C a : Addr} {n : Int} {A : Arcs} (h : RingR S H C a n A) (hT : ∀ a ∈ T, a ∈ S ∨ H a = none) (g : Nx T H H') : RingR T H' C a n A := (RingR.sub hT h).nx g
theorem Spr.to {s : Addr} {n m : Nat} (h : Spr H s n) (g : Nx [] H H') (l : n ≤ m) : Spr H' s m := (h.nx g (by simp)).le l
theorem at_to {a : Addr} {o : HO} (e : H a = some o) (hs : a ∉ S) (g : Nx S H H') : H' a = some o := g.kp a o hs e
theorem Rd.to {a : Addr} {u : HO} (r : Rd H a u) (nf : NF u) (hs : a ∉ S) (g : Nx S H H') : Rd H' a u := g.rx a u hs nf r
theorem Nx.fresh' {p : Addr} (h : H' p = none) (g : Nx S H H') : H p = none := g.fresh h
theorem tabs_to {Tb : List (Addr × Str)} (t : LamX.Tabs Tb H) (g : Nx [] H H') : LamX.Tabs Tb H' := t.ext fun b o e => g.kp b o (by simp) e
theorem Nx.step {H1 : Hp} (b : Nx T H1 H') (h : ∀ x ∈ T, x ∈ S) (a : Nx S H H1) : Nx S H H' := a.trans (b.mono h)
/-- written at D, new since H -/
theorem Nx.drop' {D : Addr} {H1 : Hp} (n : H1 D = none) (b : Nx (D :: S) H1 H') (a : Nx S H H1) : Nx S H H' := a.trans (b.drop n)
theorem sub_nil : ∀ x ∈ ([] : List Addr), x ∈ S := fun _ z => absurd z (by simp)
theorem sub_one {s : Addr} (h : s ∈ S) : ∀ x ∈ [s], x ∈ S := fun x hx => by rw [List.mem_singleton.mp hx]; exact h
theorem sub_cons {s : Addr} (h : s ∈ S) (g : ∀ x ∈ T, x ∈ S) : ∀ x ∈ s :: T, x ∈ S := fun x hx => (List.mem_cons.mp hx).elim (fun e => by rw [e]; exact h) (g x)
theorem sub_tl {s : Addr} (g : ∀ x ∈ T, x ∈ S) : ∀ x ∈ T, x ∈ s :: S := fun x hx => List.mem_cons_of_mem _ (g x hx)
theorem sub_self : ∀ x ∈ S, x ∈ S := fun _ h => h
theorem ap_nil : ∀ a ∈ ([] : List Addr), a ∈ S ∨ H a = none := fun _ z => absurd z (by simp)
theorem ap_self : ∀ a ∈ S, a ∈ S ∨ H a = none := fun _ h => .inl h
theorem ap_cons {D : Addr} (n : H D = none) (h : ∀ a ∈ T, a ∈ S ∨ H a = none) : ∀ a ∈ D :: T, a ∈ S ∨ H a = none := fun a ha => (List.mem_cons.mp ha).elim (fun e => .inr (by rw [e]; exact n)) (h a)
theorem ap_in {D : Addr} (n : D ∈ S) (h : ∀ a ∈ T, a ∈ S ∨ H a = none) : ∀ a ∈ D :: T, a ∈ S ∨ H a = none := fun a ha => (List.mem_cons.mp ha).elim (fun e => .inl (by rw [e]; exact n)) (h a)
theorem ap_sub (h : ∀ x ∈ T, x ∈ S) : ∀ a ∈ T, a ∈ S ∨ H a = none := fun a ha => .inl (h a ha)
theorem ni_one {a s : Addr} (h : a ≠ s) : a ∉ [s] := by simpa using h
theorem ni_of {a s : Addr} (h : a ∉ S) (hs : s ∈ S) : a ∉ [s] := fun z => h (by rw [List.mem_singleton.mp z]; exact hs)
theorem ni_nil {a : Addr} : a ∉ ([] : List Addr) := by simp
theorem ni_cons {a s : Addr} (h : a ≠ s) (g : a ∉ S) : a ∉ s :: S := fun z => (List.mem_cons.mp z).elim h g
theorem Im.ref_ni {p : Addr} {d : PyData} (h : Im S H (.ref p) d) : p ∉ S := by cases h <;> assumption
theorem Im.ref_al {p : Addr} {d : PyData} (h : Im S H (.ref p) d) : H p ≠ none := by cases h <;> exact rd_some (by assumption)
/-- a list that the law got, read whatever is made or drawn -/
theorem sql_all {K : PySem.W.Frag} {a : Addr} {xs : List V} (h : SqL K H a xs) : ∃ R : Hp → Prop, R H ∧ (∀ H', R H' → SqL K H' a xs) ∧ ∀ s H1 H2, H1 s = none → R H1 → Rx [s] H1 H2 → R H2 := by
  rcases h with h | h
  · exact ⟨fun H => Rd H a (.lst xs), h, fun _ r => .inl r, fun s H1 H2 n r g => g a _ (by rintro z; rw [List.mem_singleton.mp z] at r; exact rd_some r n) .l r⟩
  · exact ⟨fun _ => True, trivial, fun _ _ => .inr h, fun _ _ _ _ _ _ => trivial⟩
end
theorem ImAll.drop {S : List Addr} {H : Hp} : ∀ (n : Nat) {vs : List V} {ds : List PyData}, ImAll S H vs ds → ImAll S H (vs.drop n) (ds.drop n)
  | 0, _, _, h => h
  | _ + 1, _, _, .nil => .nil
  | n + 1, _, _, .cons _ t => ImAll.drop n t
theorem ArcsOk.sub {h : Int} {A B : Arcs} (o : ArcsOk h A) (s : B.Sublist A) : ArcsOk h B :=
  ⟨fun a ha => o.names a (s.mem ha), o.nd.sublist (s.map _), fun a ha => o.st a (s.mem ha), fun a ha => o.ln a (s.mem ha)⟩
theorem kvs_drop (n : Nat) (A : Arcs) : kvsD (A.drop n) = (kvsD A).drop n := by unfold kvsD; rw [List.map_drop]
theorem cut_from {xs : List V} (n : Nat) : cutV xs (some (n : Int)) none = xs.drop n := by
  unfold cutV
  rw [HT.sIx_none, HT.sIx_nat]
  by_cases h : n ≤ xs.length
  · rw [Nat.min_eq_left h]
    exact List.take_of_length_le (by rw [List.length_drop]; omega)
  · rw [Nat.min_eq_right (by omega), List.drop_eq_nil_of_le (Nat.le_refl _), List.drop_eq_nil_of_le (by omega)]
    simp
theorem cut1 {xs : List V} : cutV xs (some 1) none = xs.drop 1 := cut_from 1
/-- list(d.items()) of data -/
theorem s_itemsD {S : List Addr} {H : Hp} {P : Addr → Hp → Prop} {v : V} {ds : List (PyData × PyData)} (i : Im S H v (.dict ds)) (al : Al S H) (h : ∀ (l : Addr) (vs : List V) (H' : Hp), H l = none → l ∉ S → Nx [] H H' → H' l = some (.lst vs) → ImAll S H' vs (ds.map fun p => .tuple [p.1, p.2]) → P l H') :
    ∃ (d : Addr) (kvs : List (Key × V)), v = .ref d ∧ Rd H d (.dK kvs) ∧ ∀ (H' : Hp) (l : Addr) (as : List Addr), (∀ b o, H b = some o → H' b = some o) → H l = none → (∀ t ∈ as, H t = none) → l ∉ as → H' l = some (.lst (as.map V.ref)) → Paired (fun (t : Addr) (q : Key × V) => H' t = some (.tup [kV q.1, q.2])) as kvs → P l H' := by
  cases i with
  | @dct a kvs _ na ra nd ik =>
  exact ⟨a, kvs, rfl, ra, fun H' l as e nl nas nla el pr => h l _ H' nl (al.ne nl) (.ofSame e) el (ImAll.items e (fun a ha => .inl ha) ik pr fun t ht => al.ne (nas t ht))⟩
/-- a slice of a new list -/
theorem s_slL {K : PySem.W.Frag} {S : List Addr} {H : Hp} {Q : VK} {l : Addr} {vs : List V} {lo hi : Option Int} {ds : List PyData} (el : H l = some (.lst vs)) (im : ImAll S H vs ds) (al : Al S H) (ws : List V) (es : List PyData) (hw : cutV vs lo hi = ws) (he : ImAll S H ws es)
    (h : ∀ (p : Addr) (H' : Hp), H p = none → p ∉ S → Nx [] H H' → H' p = some (.lst ws) → ImAll S H' ws es → Q (.ref p) H') : rSlL K (.ref l) lo hi H Q :=
  ⟨l, vs, rfl, .of el, fun p np => by rw [hw]; exact h p _ np (al.ne np) (.new np) upd_same (he.nx (.new np))⟩
/-- the image's dict: not empty -/
theorem tru_im {K : PySem.W.Frag} {S : List Addr} {H : Hp} {v : V} {ds : List (PyData × PyData)} (i : Im S H v (.dict ds)) : TruU K v H (!ds.isEmpty) := by
  cases i with
  | @dct a kvs _ na ra nd ik => exact .inr ⟨a, kvs, rfl, ra, by cases ik <;> rfl⟩
/-- dict(d) of data -/
theorem s_dictD {S : List Addr} {H : Hp} {Q : VK} {v : V} {ds : List (PyData × PyData)} (i : Im S H v (.dict ds)) (al : Al S H) (h : ∀ (p : Addr) (H' : Hp), H p = none → p ∉ S → Nx [] H H' → Im S H' (.ref p) (.dict ds) → Q (.ref p) H') : rDictD [v] H Q := by
  cases i with
  | @dct a kvs _ na ra nd ik => exact ⟨a, kvs, rfl, ra, fun p np => h p _ np (al.ne np) (.new np) (.dct (al.ne np) (.inl upd_same) nd (ik.nx (.new np)))⟩
/-- {a: (x, y), b: (z, w)}, just made -/
theorem disp2_arcs {S : List Addr} {H : Hp} {p t1 t2 : Addr} {a b : Str} {x y z w : Int} (al : Al S H) (np : H p = none) (n1 : (upd H p (.dK [])) t1 = none) (n2 : (upd (upd H p (.dK [])) t1 (.tup [.int x, .int y])) t2 = none) (ab : a ≠ b) :
    (upd (upd (upd H p (.dK [])) t1 (.tup [.int x, .int y])) t2 (.tup [.int z, .int w])) p = some (.dK []) ∧
    Im S (upd (upd (upd (upd H p (.dK [])) t1 (.tup [.int x, .int y])) t2 (.tup [.int z, .int w])) p (.dK (mergeK [] [(.inr a, .ref t1), (.inr b, .ref t2)]))) (.ref p) (arcsD [(a, x, y), (b, z, w)]) ∧
    Nx [] H (upd (upd (upd (upd H p (.dK [])) t1 (.tup [.int x, .int y])) t2 (.tup [.int z, .int w])) p (.dK (mergeK [] [(.inr a, .ref t1), (.inr b, .ref t2)]))) := by
  have p1 : p ≠ t1 := fun e => by rw [← e, upd_same] at n1; cases n1
  have p2 : p ≠ t2 := fun e => by rw [← e, upd_ne p1, upd_same] at n2; cases n2
  have h12 : t1 ≠ t2 := fun e => by rw [← e, upd_same] at n2; cases n2
  have m1 : H t1 = none := by rw [upd_ne p1.symm] at n1; exact n1
  have m2 : H t2 = none := by rw [upd_ne h12.symm, upd_ne p2.symm] at n2; exact n2
  have nd : (([(.inr a, .ref t1), (.inr b, .ref t2)] : List (Key × V)).map (·.1)).Nodup := by
    simp only [List.map_cons, List.map_nil, List.nodup_cons, List.mem_singleton, List.not_mem_nil, not_false_eq_true, List.nodup_nil, and_true]
    exact fun e => ab (by injection e)
  refine ⟨by rw [upd_ne p2, upd_ne p1, upd_same], ?_, (((Nx.new (S := [p]) np).newP n1).newP n2).putP (by simp) |>.drop np⟩
  rw [merge_nil nd]
  refine .dct (al.ne np) (.inl upd_same) nd (.cons (k := .inr a) ?_ (.cons (k := .inr b) ?_ .nil))
  · exact Im.pair (al.ne m1) (by rw [upd_ne p1.symm, upd_ne h12, upd_same])
  · exact Im.pair (al.ne m2) (by rw [upd_ne p2.symm, upd_same])
theorem disp2_strs {S : List Addr} {H : Hp} {p : Addr} {a b x y : Str} (al : Al S H) (np : H p = none) (ab : a ≠ b) :
    (upd H p (.dK [])) p = some (.dK []) ∧ Im S (upd (upd H p (.dK [])) p (.dK (mergeK [] [(.inr a, .str x), (.inr b, .str y)]))) (.ref p) (strsD [(a, x), (b, y)]) ∧ Nx [] H (upd (upd H p (.dK [])) p (.dK (mergeK [] [(.inr a, .str x), (.inr b, .str y)]))) := by
  have nd : (([(.inr a, .str x), (.inr b, .str y)] : List (Key × V)).map (·.1)).Nodup := by
    simp only [List.map_cons, List.map_nil, List.nodup_cons, List.mem_singleton, List.not_mem_nil, not_false_eq_true, List.nodup_nil, and_true]
    exact fun e => ab (by injection e)
  rw [merge_nil nd]
  exact ⟨upd_same, .dct (al.ne np) (.inl upd_same) nd (.cons (k := .inr a) (.str x) (.cons (k := .inr b) (.str y) .nil)), ((Nx.new (S := [p]) np).putP (by simp)).drop np⟩
/-- nothing walks over it now -/
def Unl (H : Hp) : V → Prop
  | .ref a => ∀ o u, H a ≠ some (.frz o u)
  | _ => True
/-- no key ' late ' -/
def NoLate (d : PyData) : Prop := ∀ ds, d = .dict ds → ∀ p ∈ ds, p.1 ≠ .str " late "
theorem isMapB_len {h h2 t : Int} {A B : Arcs} {d : PyData} (n : A.length ≠ B.length) : isMapB h A h2 B t d = false := by
  cases d with
  | dict ds => rw [isMapB, decide_eq_false n]; simp
  | _ => rfl
theorem isMapB_hours {h h2 t : Int} {A B : Arcs} {d : PyData} (n : h ≠ h2) : isMapB h A h2 B t d = false := by
  cases d with
  | dict ds => rw [isMapB, decide_eq_false n]; simp
  | _ => rfl
end RG

/-! the end of a law whose def's promise holds only where G holds of the surroundings; ts: tables of code objects that grow -/
namespace RG
open PySem PySem.Spec PyProof.Rows L2
/-- what stands in the heap when the law is called: the script at a, empty tables at ts -/
structure Start (K : PySem.W.Frag) (h : Heap) (a : Addr) (its : List Value) (ns : List Int) (ts : List Addr) : Prop where
  sc : h.get? a = some { cls := .type "list", data := .seq its.toArray }
  isI : IntsAre its ns
  few : ns.length ≤ sizeLine
  tab : ∀ t ∈ ts, h.get? t = some { cls := .none, data := .fields #[] }
  out : ∀ t ∈ ts, K.lookup t = none
/-- what is tracked of it -/
def trackH (K : PySem.W.Frag) (a : Addr) (its : List Value) (ns : List Int) (ts : List Addr) : Hp := fun b =>
  if b ∈ ts then some (.tbl #[]) else if b = a ∧ K.lookup a = none then some (.frz { cls := .type "list", data := .seq its.toArray } (.lst (ns.map V.int))) else none
section
variable {P : Program} {w : World} {K : PySem.W.Frag} {h : Heap} {a : Addr} {its : List Value} {ns : List Int} {ts : List Addr}
theorem track_t {b : Addr} (hb : b ∈ ts) : trackH K a its ns ts b = some (.tbl #[]) := if_pos hb
theorem track_cases (b : Addr) : (b ∈ ts ∧ trackH K a its ns ts b = some (.tbl #[])) ∨ (b = a ∧ K.lookup a = none ∧ trackH K a its ns ts b = some (.frz { cls := .type "list", data := .seq its.toArray } (.lst (ns.map V.int)))) ∨ trackH K a its ns ts b = none := by
  unfold trackH
  by_cases h1 : b ∈ ts
  · exact .inl ⟨h1, if_pos h1⟩
  · by_cases h2 : b = a ∧ K.lookup a = none
    · exact .inr (.inl ⟨h2.1, h2.2, by rw [if_neg h1, if_pos h2]⟩)
    · exact .inr (.inr (by rw [if_neg h1, if_neg h2]))
theorem Start.apart (S : Start K h a its ns ts) : a ∉ ts := fun z => by
  have e := (S.tab a z).symm.trans S.sc
  injection e with e
  have e2 : Data.fields #[] = Data.seq its.toArray _ := congrArg Obj.data e
  cases e2
theorem Start.hok (S : Start K h a its ns ts) : HOk P w (trackH K a its ns ts) h := fun b u e => by
  rcases track_cases (K := K) (a := a) (its := its) (ns := ns) (ts := ts) b with ⟨h1, h2⟩ | ⟨rfl, _, h2⟩ | h2
  · rw [h2] at e; cases e; exact S.tab b h1
  · rw [h2] at e; cases e
    exact ⟨S.sc, by rw [List.length_map]; exact S.few, its, _, vals_ints S.isI, S.sc⟩
  · rw [h2] at e; cases e
theorem Start.sql (S : Start K h a its ns ts) (KX : K.In h) : SqL K (trackH K a its ns ts) a (ns.map V.int) := by
  cases e : K.lookup a with
  | none =>
    refine .inl (.inr ⟨{ cls := .type "list", data := .seq its.toArray }, ?_⟩)
    unfold trackH
    rw [if_neg S.apart, if_pos ⟨rfl, e⟩]
  | some o =>
    have e2 := KX a o e
    rw [S.sc] at e2
    cases e2
    exact .inr ⟨_, its.toArray, _, e, rfl, rfl, rfl, by rw [List.size_toArray, S.isI.length]; exact S.few, by simpa using vals_ints S.isI⟩
/-- an object of another kind is not tracked -/
theorem Start.free (S : Start K h a its ns ts) {b : Addr} {o : Obj} (e : h.get? b = some o) (h1 : ∀ vs n, o.data ≠ .seq vs n) (h2 : o.data ≠ .fields #[]) : trackH K a its ns ts b = none := by
  rcases track_cases (K := K) (a := a) (its := its) (ns := ns) (ts := ts) b with ⟨z, _⟩ | ⟨rfl, _⟩ | z
  · rw [S.tab b z] at e; cases e; exact absurd rfl h2
  · rw [S.sc] at e; cases e; exact absurd rfl (h1 _ _)
  · exact z
theorem Start.dict (S : Start K h a its ns ts) {b : Addr} {m : Str → Option Value} (n : h.Ns b m) : (hidT h (trackH K a its ns ts)).Ns b m := by
  obtain ⟨o, es, ep, e, d, r⟩ := n
  exact ⟨o, es, ep, hidT_get e (S.free e (fun _ _ z => by rw [d] at z; cases z) (fun z => by rw [d] at z; cases z)), d, r⟩
theorem Start.frag (S : Start K h a its ns ts) (KX : K.In h) : K.In (hidT h (trackH K a its ns ts)) := fun b o e => by
  refine hidT_get (KX b o e) ?_
  rcases track_cases (K := K) (a := a) (its := its) (ns := ns) (ts := ts) b with ⟨z, _⟩ | ⟨rfl, n, _⟩ | z
  · rw [S.out b z] at e; cases e
  · rw [n] at e; cases e
  · exact z
end
/-- the module's __builtins__ -/
def BmIn (h : Heap) (mg : Str → Option Value) : Prop := ∃ (bm : Addr) (ob : Obj), mg "__builtins__" = some (.ref bm) ∧ bm ≠ builtinsNs ∧ h.get? bm = some ob ∧ ob.cls = .type "module" ∧ ob.dict = some builtinsNs ∧ ob.data = .plain
section
variable {G : Around → Prop} {P : Program} {w : World} {K : PySem.W.Frag} {mg mb : Str → Option Value} {fa a : Addr} {cs : List (Addr × Addr)} {fd : FuncData} {x : Str} {sp : Sp} {s : Shared} {its : List Value} {ns : List Int}
theorem Start.tabB (S : Start K s.heap a its ns (cs.map (·.2))) (hns : s.heap.Ns mainGlobals mg) (hbm : BmIn s.heap mg) {p : Addr × Addr} (hp : p ∈ cs) (C : PySem.W.CodeHd s.heap p.1 p.2) : LamX.TabB (hidT s.heap (trackH K a its ns (cs.map (·.2)))) mg p.1 p.2 := by
  have hT := S.tab p.2 (List.mem_map_of_mem hp)
  have gNe : mainGlobals ≠ p.2 := fun z => by
    obtain ⟨o, es, ep, e, d, _⟩ := hns
    rw [z, hT] at e; cases e; cases d
  obtain ⟨bm, ob, b1, b2, b3, b4, b5, b6⟩ := hbm
  have fr := S.free b3 (fun _ _ z => by rw [b6] at z; cases z) (fun z => by rw [b6] at z; cases z)
  obtain ⟨o, vs, file, tf, fl, tg, inF, tx, tt, c1, c2, c3, c4, c5, c6, c7, c8, c9, c10⟩ := C
  have fr2 := S.free c1 (fun _ _ z => by rw [c3] at z; cases z) (fun z => by rw [c3] at z; cases z; simp at c4)
  refine ⟨⟨o, vs, file, tf, fl, tg, inF, tx, tt, hidT_get c1 fr2, c2, c3, c4, c5, c6, c7, c8, c9, c10⟩, ⟨bm, ob, b1, b2, fun z => ?_, fun z => ?_, hidT_get b3 fr, b4, b5, b6⟩, gNe⟩
  · obtain ⟨o2, es, ep, e, d, _⟩ := hns
    rw [← z, b3] at e; cases e; rw [b6] at d; cases d
  · rw [z, hT] at b3; cases b3; cases b6
theorem callA (KX : K.In s.heap) (hns : s.heap.Ns mainGlobals mg) (hb : s.heap.Ns builtinsNs mb) (hbb : ∀ x : Str, x ≠ "__name__" → mb x = bootBuiltins x) (hlim : s.heap.NoLimit) (hg : s.gens = #[]) (S : Start K s.heap a its ns (cs.map (·.2)))
    (C : ∀ p ∈ cs, PySem.W.CodeHd s.heap p.1 p.2) (hbm : BmIn s.heap mg) (gA : G callerA) (F : ∀ base : Heap, K.In base → base.Ns mainGlobals mg → (∀ p ∈ cs, LamX.TabB base mg p.1 p.2) → FnA G P w K mg base fa fd [x] sp)
    (hbind : ∀ (s : Shared) (u : Value), BindsTo s fd ⟨[u], []⟩ [(x, u)]) (hsp : ∀ H : Hp, (∀ p ∈ cs, H p.2 = some (.tbl #[])) → SqL K H a (ns.map V.int) → sp [.ref a] H (fun v _ => v = .bl true) E0) :
    codeAny (model P w) callerA (.call (.ref fa) ⟨[.ref a], []⟩) (fun r s' => r = .ok (.ret (.bool true)) ∧ OldK s.heap s'.heap ∧ s'.os = s.os ∧ AllBare s'.gens) s := by
  have kin := S.frag KX
  have glob := S.dict hns
  have lim : (hidT s.heap (trackH K a its ns (cs.map (·.2)))).NoLimit := by
    obtain ⟨mc, h1, h2⟩ := hlim
    exact ⟨mc, S.dict h1, h2⟩
  have env : Env0 P w K mg (hidT s.heap (trackH K a its ns (cs.map (·.2)))) callerA [] s (trackH K a its ns (cs.map (·.2))) :=
    { frames := rfl, mod := { kin := kin, glob := glob, blt := ⟨mb, S.dict hb, hbb⟩, nolimit := lim }, bs := fun b o e => of_hidT e, bsz := by rw [hidT_size]; exact Nat.le_refl _, funs := trivial, frf := fun b hb => absurd hb (List.not_mem_nil), hok := S.hok, bare := .of_eq hg }
  have run := (F _ kin glob fun p hp => S.tabB hns hbm hp (C p hp)).run callerA [] s _ ⟨[.ref a], []⟩ [.ref a] [.ref a] _ gA env (hbind s _) (.cons rfl .nil) (hsp _ (fun p hp => track_t (List.mem_map_of_mem hp)) (S.sql KX))
  refine codeAny_mono run fun r s' z => ?_
  rcases r with e | fl
  · exact False.elim z
  cases fl with
  | next => exact False.elim z
  | brk => exact False.elim z
  | cont => exact False.elim z
  | ret u =>
    obtain ⟨v, H', os, bare, un, hok', ru, qv⟩ := z
    obtain rfl : v = .bl true := qv
    obtain rfl : u = Value.bool true := ru
    have stays : ∀ b o, s.heap.get? b = some o → (b ∉ cs.map (·.2) ∧ s'.heap.get? b = some o) ∨ (b ∈ cs.map (·.2) ∧ o = { cls := .none, data := .fields #[] } ∧ ∃ more : Array Value, s'.heap.get? b = some { cls := .none, data := .fields more }) := fun b o e => by
      rcases track_cases (K := K) (a := a) (its := its) (ns := ns) (ts := cs.map (·.2)) b with ⟨h1, h2⟩ | ⟨rfl, _, h2⟩ | h2
      · obtain ⟨more, hm⟩ := un.tbls b #[] h2
        have e2 := S.tab b h1
        rw [e] at e2
        exact .inr ⟨h1, Option.some.inj e2, _, hok' b _ hm⟩
      · refine .inl ⟨S.apart, ?_⟩
        rw [S.sc] at e
        cases e
        exact (hok' b _ (un.frzs b _ _ h2)).1
      · by_cases hb : b ∈ cs.map (·.2)
        · rw [track_t hb] at h2; cases h2
        · exact .inl ⟨hb, un.keep b o e h2 (List.not_mem_nil) (List.not_mem_nil)⟩
    refine ⟨rfl, ⟨fun b o e => ?_, fun b o e => ?_⟩, os, bare⟩
    · rcases stays b o e with ⟨_, q⟩ | ⟨hb, eo, more, q⟩
      · exact .inl q
      · obtain ⟨p, hp, rfl⟩ := List.mem_map.mp hb
        subst eo
        exact .inr (.inl ⟨((C p hp).tab (S.tab p.2 hb)).isCodeTable, rfl, #[], more, rfl, by rw [Array.empty_append]; exact q⟩)
    · rcases stays b o e with ⟨_, q⟩ | ⟨_, _, more, q⟩
      · exact ⟨_, q⟩
      · exact ⟨_, q⟩
end
/-- the walk of a law: F tells, of the head's heap, the written part, the tables, the def and its promise -/
theorem walkA {l : PySem.W.OpenLaw} {n : Nat} {q : Program} {loose : List Str} {XP : (Str → Option Value) → Heap → Prop} {YP : World → Heap → Prop} {d : DefRec} {x : Str} {G : Around → Prop} (hn : l.most = some n) (hn2 : n ≤ sizeLine) (hdf : d.params.defaults = []) (gA : G callerA)
    (F : ∀ (w : World) (mg : Str → Option Value) (fa : Addr) (h : Heap), YP w h → h.Ns mainGlobals mg → mg d.name = some (.ref fa) →
      ∃ (K : PySem.W.Frag) (fd : FuncData) (cs : List (Addr × Addr)) (sp : Sp), K.In h ∧ (∀ p ∈ cs, h.get? p.2 = some { cls := .none, data := .fields #[] }) ∧ (∀ p ∈ cs, K.lookup p.2 = none) ∧ (∀ p ∈ cs, PySem.W.CodeHd h p.1 p.2) ∧ (∀ (s : Shared) (u : Value), BindsTo s fd ⟨[u], []⟩ [(x, u)]) ∧
        (∀ (H : Hp) (a : Addr) (ns : List Int), ns.length ≤ n → (∀ z ∈ ns, Builtin.Int.intBits z ≤ 1048576) → (∀ p ∈ cs, H p.2 = some (.tbl #[])) → SqL K H a (ns.map V.int) → sp [.ref a] H (fun v _ => v = .bl true) E0) ∧
        ∀ base : Heap, K.In base → base.Ns mainGlobals mg → (∀ p ∈ cs, LamX.TabB base mg p.1 p.2) → FnA G l.prog w K mg base fa fd [x] sp) :
    PySem.W.WalkO q loose XP YP l.row.toRowW d [] (fun f vs => PySem.call f vs) := by
  refine Att.attach_callB hn hdf fun w s0 s1 mg mb fa o pm cd doc a vs ns Gr Y ho hd hcd hmg hobj hints hlen hbits hg => ?_
  obtain ⟨K, fd, cs, sp, KX, hT, nT, C, hb, hsp, hF⟩ := F w mg fa _ Y Gr.T.g hmg
  have S : Start K s1.heap a vs ns (cs.map (·.2)) := ⟨hobj, hints, Nat.le_trans hlen hn2, fun t ht => by obtain ⟨p, hp, rfl⟩ := List.mem_map.mp ht; exact hT p hp, fun t ht => by obtain ⟨p, hp, rfl⟩ := List.mem_map.mp ht; exact nT p hp⟩
  exact callA KX Gr.T.g Gr.T.b Gr.T.builtins Gr.T.nolimit hg S C Gr.T.bmain gA hF hb fun H h1 h2 => hsp H a ns hlen hbits h1 h2
end RG

/-! what the head tells: defs, classes, own errors, tables; beside what the module's names reach: two places of the machine -/
namespace RG
open PySem PySem.Spec PyProof.Rows L2
/-- an own error: its name, its field, its __init__ as written -/
structure ErrD where
  cls : Str
  fld : Str
  qual : Str
  params : Arguments
  body : List Stmt
  scope : Scope
abbrev FnE : Type := Option (Str × Str × Arguments × FuncBody × Scope × Addr × Value × Value × Addr)
def fnE (K : PySem.W.Frag) (a : Addr) : FnE := match K.lookup a with
  | some ⟨_, _, .func f, _⟩ => some (f.name, f.qualname, f.params, f.body, f.scope, f.globals, f.defaults, f.kwdefaults, f.builtins)
  | _ => none
namespace ErrD
def C (K : PySem.W.Frag) (d : ErrD) : Addr := He.ga K d.cls
def I (K : PySem.W.Frag) (d : ErrD) : Addr := He.ma K (He.ga K d.cls) "__init__"
def val (d : ErrD) : FnE := some ("__init__", d.qual, d.params, .stmts d.body, d.scope, mainGlobals, .none, .none, builtinsNs)
end ErrD
/-- the class's object -/
def clsB (K : PySem.W.Frag) (C : Addr) : Bool := match K.lookup C with
  | some ⟨.type t, _, .cls ⟨_, _, mro, _, _, hd, _, _, _, _, del⟩, sl⟩ => (match mro, sl.toList with
    | .ref C' :: bm, [_, _, _, _, some (.builtin n), _] => decide (t = "type") && (decide (C' = C) && (decide (n = "ValueError.__new__") && (hd && (!del && HandSPX.refsVE bm))))
    | _, _ => false)
  | _ => false
theorem clsB_ok {K : PySem.W.Frag} {C : Addr} (h : clsB K C = true) : ∃ nm q N bs bm sn sub ab col dd k0 k1 k2 k3 k5, K.lookup C = some (excClassObj nm q C N bs bm true sn sub ab col dd k0 k1 k2 k3 k5 "ValueError.__new__") ∧ HandSPX.refsVE bm = true := by
  unfold clsB at h
  split at h
  · rename_i t dd nm bs mro N q hd sn sub ab col del sl e
    split at h
    · rename_i C' bm k0 k1 k2 k3 n k5 hs
      simp only [Bool.and_eq_true, decide_eq_true_eq, Bool.not_eq_true'] at h
      obtain ⟨rfl, rfl, rfl, rfl, rfl, hb⟩ := h
      have : sl = #[k0, k1, k2, k3, some (.builtin "ValueError.__new__"), k5] := by
        obtain ⟨l⟩ := sl
        simp only at hs
        rw [hs]
      subst this
      exact ⟨_, _, _, _, _, _, _, _, _, _, _, _, _, _, _, e, hb⟩
    · cases h
  · cases h
/-- the closure of its __init__ holds the class; its code object names the file -/
def initB (file : Str) (K : PySem.W.Frag) (C a : Addr) (qual : Str) : Bool := match K.lookup a with
  | some ⟨_, _, .func f, _⟩ => (match f.closure, f.code with
    | [(x, cc)], .ref c => decide (x = "__class__") && (PySem.W.codeIn K (.ref c) qual && ((match K.lookup cc with
      | some ⟨_, _, .cell (some (.ref C')), _⟩ => decide (C' = C)
      | _ => false) && (match K.lookup c with
      | some ⟨_, _, .fields vs, _⟩ => (match (vs[2]? : Option Value) with
        | some (.str z _) => file == z
        | _ => false)
      | _ => false)))
    | _, _ => false)
  | _ => false
def errB (file : Str) (K : PySem.W.Frag) (d : ErrD) : Bool :=
  (He.eqO (PySem.W.nsIn K mainGlobals d.cls) (some (some (.ref (d.C K)))) && (clsB K (d.C K) && (He.eqO (PySem.W.findIn K (.ref (d.C K)) "__setattr__") (some (some (.builtin "object.__setattr__"))) && (decide (PySem.W.subIn K (.ref (d.C K)) (.type "BaseException") = some true) &&
  (decide (PySem.W.typeIn K (.ref (d.C K)) = some (.type "type")) && PySem.W.keepIn K (.ref (d.C K))))))) &&
  ((He.eqO (PySem.W.findIn K (.ref (d.C K)) d.fld) (some none) && (He.eqO (PySem.W.findIn K (.ref (d.C K)) "__init__") (some (some (.ref (d.I K)))) && (decide (PySem.W.typeIn K (.ref (d.I K)) = some (.type "function")) && initB file K (d.C K) (d.I K) d.qual))) &&
  ((decide (PySem.W.mroIn K (d.C K) (.ref (d.C K)) = some true) && (He.eqO (PySem.W.ks_superIn K (d.C K) (d.C K) "__init__") (some (some (.builtin "ValueError.__init__"))) && decide (PySem.W.subIn K (.ref (d.C K)) (.type "ValueError") = some true))) &&
  (He.eqO (PySem.W.findIn K (.ref (d.C K)) "__getattribute__") (some (some (.builtin "BaseException.__getattribute__"))) && (He.eqO (PySem.W.findIn K (.ref (d.C K)) "__getattr__") (some none) &&
  (PySem.W.hasDictIn K (d.C K) && (decide (PySem.W.exmOne K (.ref (d.C K)) (.ref (d.C K)) = some true) && He.eqO (PySem.W.nsIn K cStatics "thirdparty.any") (some none)))))))
theorem err_ok {P : Program} {K : PySem.W.Frag} {d : ErrD} (hb : errB P.main.file K d = true) (hv : fnE K (d.I K) = d.val) : ExF P K (d.C K) (d.I K) d.fld d.qual d.params d.body d.scope ∧ PySem.W.nsIn K mainGlobals d.cls = some (some (.ref (d.C K))) := by
  unfold errB at hb
  simp only [Bool.and_eq_true, decide_eq_true_eq] at hb
  obtain ⟨⟨a1, a2, a3, a4, a5, a6⟩, ⟨b1, b2, b3, b4⟩, ⟨c1, c2, c3⟩, c4, c5, c6, c7, c8⟩ := hb
  refine ⟨⟨⟨clsB_ok a2, He.eqO_ok a3, a4, a5, a6⟩, He.eqO_ok b1, He.eqO_ok b2, b3, ?_, c1, He.eqO_ok c2, c3, He.eqO_ok c4, He.eqO_ok c5, c6, c7, He.eqO_ok c8⟩, He.eqO_ok a1⟩
  unfold initB at b4
  unfold fnE at hv
  split at b4
  · rename_i oc od f osl e
    rw [e] at hv
    obtain ⟨n1, n2, n3, n4, n5, n6, n7, n8, n9, n10, n11, n12, n13, n14, n15⟩ := f
    unfold ErrD.val at hv
    simp only [Option.some.injEq, Prod.mk.injEq] at hv
    obtain ⟨rfl, h2, h3, h4, h5, rfl, rfl, rfl, rfl⟩ := hv
    subst h2 h3 h4 h5
    dsimp only at b4
    split at b4
    · rename_i x cc c
      simp only [Bool.and_eq_true, decide_eq_true_eq] at b4
      obtain ⟨rfl, d1, d2, d3⟩ := b4
      split at d2
      · rename_i ccl ccd C' csl e2
        obtain rfl : C' = d.C K := of_decide_eq_true d2
        split at d3
        · rename_i dcl dcd vs ccs e3
          split at d3
          · rename_i z tf e4
            exact ⟨_, _, _, _, _, _, _, _, _, e, d1, ⟨_, _, _, e2⟩, _, _, _, _, _, _, e3, e4, d3⟩
          · cases d3
        · cases d3
      · cases d2
    · cases b4
  · cases b4
/-! ### the look at the heap -/
def seeY (n : Nat) (g : Addr → Option Obj) : PySem.W.Frag := He.frT g (He.asD g n ++ [cStatics, sysModules])
abbrev AlY : Type := (He.AlD × List FnE) × Bool
def obsY (file : Str) (n : Nat) (fa : List He.Fa) (fn : List He.DefD) (er : List ErrD) (tf : List He.Defn) (g : Addr → Option Obj) : AlY :=
  ((He.obsD fa fn (seeY n g), er.map fun d => fnE (seeY n g) (d.I (seeY n g))), er.all (errB file (seeY n g)) && (((seeY n g).lookup sysModules).isSome && He.tabsB g tf (seeY n g)))
/-- what is told -/
structure SaysY (file : Str) (fa : List He.Fa) (fn : List He.DefD) (er : List ErrD) (tf : List He.Defn) (h : Heap) (K : PySem.W.Frag) : Prop where
  d : He.SaysD fa fn K
  ev : er.map (fun d => fnE K (d.I K)) = er.map ErrD.val
  eb : er.all (errB file K) = true
  sys : (K.lookup sysModules).isSome = true
  tb : ∀ p ∈ tf, PySem.W.codeHdIn K (He.cT K p).1 (He.cT K p).2 = true ∧ K.lookup (He.cT K p).2 = none ∧ h.get? (He.cT K p).2 = some { cls := .none, data := .fields #[] }
theorem saysY_of {file : Str} {n : Nat} {fa : List He.Fa} {fn : List He.DefD} {er : List ErrD} {tf : List He.Defn} {h : Heap} (e : obsY file n fa fn er tf h.get? = ((He.valD fn, er.map ErrD.val), true)) : SaysY file fa fn er tf h (seeY n h.get?) := by
  unfold obsY at e
  rw [Prod.mk.injEq, Prod.mk.injEq] at e
  obtain ⟨⟨e1, e2⟩, e3⟩ := e
  rw [Bool.and_eq_true, Bool.and_eq_true] at e3
  obtain ⟨e3, e4, e5⟩ := e3
  refine ⟨e1, e2, e3, e4, fun p hp => ?_⟩
  have z := List.all_eq_true.mp e5 p hp
  rw [Bool.and_eq_true] at z
  obtain ⟨z1, z2⟩ := z
  split at z2
  · rename_i o q
    refine ⟨z1, He.frT_none q z2, ?_⟩
    rw [He.emptyTab_eq z2] at q
    exact q
  · cases z2
def hookY (file : Str) (n : Nat) (fa : List He.Fa) (fn : List He.DefD) (er : List ErrD) (tf : List He.Defn) : PySem.W.Hook where
  α := AlY
  obs := fun s => obsY file n fa fn er tf s.heap.get?
  val := fun _ => ((He.valD fn, er.map ErrD.val), true)
  says := fun _ h => ∃ K : PySem.W.Frag, K.In h ∧ SaysY file fa fn er tf h K
  of := fun _ _ e => ⟨_, He.frT_in, saysY_of e⟩
  keeps := fun _ _ _ ⟨K, hK, c⟩ k => ⟨K, PySem.W.Frag.In.keeps hK k, ⟨c.d, c.ev, c.eb, c.sys, fun p hp => ⟨(c.tb p hp).1, (c.tb p hp).2.1, k _ _ (c.tb p hp).2.2⟩⟩⟩
theorem obsY_eq {file : Str} {n : Nat} {fa : List He.Fa} {fn : List He.DefD} {er : List ErrD} {tf : List He.Defn} {g : Addr → Option Obj} {s : Shared} (h : ∀ a, g a = s.heap.get? a) : obsY file n fa fn er tf g = (hookY file n fa fn er tf).obs s := by
  rw [show g = s.heap.get? from funext h] <;> rfl
section
variable {file : Str} {fa : List He.Fa} {fn : List He.DefD} {er : List ErrD} {tf : List He.Defn} {h : Heap} {K : PySem.W.Frag}
theorem SaysY.err {P : Program} (c : SaysY P.main.file fa fn er tf h K) (i : Nat) {d : ErrD} (e : er[i]? = some d := by rfl) : ExF P K (d.C K) (d.I K) d.fld d.qual d.params d.body d.scope ∧ PySem.W.nsIn K mainGlobals d.cls = some (some (.ref (d.C K))) := by
  refine err_ok (List.all_eq_true.mp c.eb d (List.mem_of_getElem? e)) ?_
  have z : (er.map fun d => fnE K (d.I K))[i]? = (er.map ErrD.val)[i]? := by rw [c.ev]
  rw [List.getElem?_map, List.getElem?_map, e] at z
  exact Option.some.inj z
theorem SaysY.sysM (c : SaysY file fa fn er tf h K) : ∃ o, K.lookup sysModules = some o := Option.isSome_iff_exists.mp c.sys
/-- the def whose table is told: its code object -/
theorem SaysY.code {x qual : Str} {params : Arguments} {body : List Stmt} {scope : Scope} {fd : FuncData} {p : He.Defn} (F : FunD K x qual params body scope [] [] (He.fAd K p) fd) : fd.code = .ref (He.cT K p).1 := by
  obtain ⟨oc, od, dV, kV, doc, pm, an, cdv, ct, osl, rfl, lk, hcd, _, _⟩ := F.ex
  obtain ⟨c, rfl⟩ := He.codeIn_ref hcd
  show _ = Value.ref (He.codeOf K p)
  rw [He.codeOf_eq lk rfl]
/-- a promise that nobody can ask -/
theorem fn_void {P : Program} {w : World} {K : PySem.W.Frag} {mg : Str → Option Value} {base : Heap} {CX : CXT} {k : Nat} {f : Addr} {fd : FuncData} {ps : List Str} {sp : Sp} (n : ∀ vs H Q E, ¬ sp vs H Q E) : FnOk P w K mg base CX k f fd ps sp :=
  ⟨fun vs H Q E z => absurd z (n vs H Q E), fun _ _ _ H _ _ vs Q E _ _ _ _ z => absurd z (n vs H Q E)⟩
/-- the record of a def without defaults -/
theorem FunD.rec {x qual : Str} {params : Arguments} {body : List Stmt} {scope : Scope} {f : Addr} {fd : FuncData} (F : FunD K x qual params body scope [] [] f fd) : ∃ (oc : Value) (od : Option Addr) (kV doc pm : Value) (an : Option Addr) (cdv ct : Value) (osl : Array (Option Value)),
    fd = PySem.W.fnOf x qual params body scope .none kV doc pm an cdv ct ∧ K.lookup f = some ⟨oc, od, .func fd, osl⟩ ∧ PySem.W.codeIn K cdv qual = true := by
  obtain ⟨oc, od, dV, kV, doc, pm, an, cdv, ct, osl, e, lk, hcd, hD, _⟩ := F.ex
  rcases hD with ⟨_, rfl⟩ | ⟨z, _⟩
  · exact ⟨oc, od, kV, doc, pm, an, cdv, ct, osl, e, lk, hcd⟩
  · exact absurd rfl z
end
end RG

namespace RG
open PySem PySem.Spec PyProof.Rows L2
def topS (i : Nat) : Stmt := PySem.Challenge.pw_ringnumber_k58_whole_maps_judged.main.body.getD i (.Pass ⟨0, 0, 0, 0⟩)
abbrev s_Ldraw : Stmt := topS 24
abbrev n_Ldraw : List Str := ["spring", "many", "digit", "mixed"]
theorem sc_Ldraw : FnScope n_Ldraw ["spring", "many"] (defScope s_Ldraw) := ⟨rfl, rfl, rfl, by decide +kernel, rfl, by decide +kernel, by decide +kernel⟩
/-- a draw: a number below many -/
def sp_Ldraw (_ : PySem.W.Frag) : Sp := fun vs H Q _ => ∃ (s : Addr) (n : Nat) (m : Int), vs = [.ref s, .int m] ∧ Spr H s n ∧ n ≤ 100000000000 ∧ 0 < m ∧ m < 1073741824 ∧
  ∀ (d : Int) (H' : Hp), 0 ≤ d → d < m → Nx [s] H H' → Spr H' s (n + 1) → Q (.int d) H'
abbrev s_Lpick : Stmt := topS 25
abbrev n_Lpick : List Str := ["spring", "some"]
theorem sc_Lpick : FnScope n_Lpick ["spring", "some"] (defScope s_Lpick) := ⟨rfl, rfl, rfl, by decide +kernel, rfl, by decide +kernel, by decide +kernel⟩
/-- one of the items of a list -/
def sp_Lpick (K : PySem.W.Frag) : Sp := fun vs H Q _ => ∃ (s a : Addr) (n : Nat) (xs : List V), vs = [.ref s, .ref a] ∧ Spr H s n ∧ n ≤ 100000000000 ∧ SqL K H a xs ∧ a ≠ s ∧ 0 < xs.length ∧ xs.length < 1000000 ∧
  ∀ (x : V) (H' : Hp), x ∈ xs → Nx [s] H H' → Spr H' s (n + 1) → Q x H'
abbrev s_Lmixed : Stmt := topS 26
abbrev n_Lmixed : List Str := ["spring", "some", "left", "k"]
theorem sc_Lmixed : FnScope n_Lmixed ["spring", "some"] (defScope s_Lmixed) := ⟨rfl, rfl, rfl, by decide +kernel, rfl, by decide +kernel, by decide +kernel⟩
/-- the items in some order, a new list -/
def sp_Lmixed (K : PySem.W.Frag) : Sp := fun vs H Q _ => ∃ (s a : Addr) (n : Nat) (xs : List V), vs = [.ref s, .ref a] ∧ Spr H s n ∧ n ≤ 100000000 ∧ SqL K H a xs ∧ a ≠ s ∧ xs.length < 100000 ∧
  ∀ (p : Addr) (ys : List V) (H' : Hp), H p = none → ys.Perm xs → H' p = some (.lst ys) → Nx [s] H H' → Spr H' s (n + xs.length) → Q (.ref p) H'
abbrev s_Lspring : Stmt := topS 23
abbrev n_Lspring : List Str := ["script", "turn", "cell", "mix", "at", "one"]
theorem sc_Lspring : FnScope n_Lspring ["script", "turn"] (defScope s_Lspring) := ⟨rfl, rfl, rfl, by decide +kernel, rfl, by decide +kernel, by decide +kernel⟩
/-- a spring -/
def sp_Lspring (K : PySem.W.Frag) : Sp := fun vs H Q _ => ∃ (a : Addr) (ns : List Int) (t : Nat), vs = [.ref a, .int t] ∧ SqL K H a (ns.map V.int) ∧ ns.length ≤ 63 ∧ t ≤ 1000 ∧
  ∀ (s : Addr) (H' : Hp), H s = none → Nx [] H H' → Spr H' s 0 → Q (.ref s) H'
abbrev s_Lw_name : Stmt := topS 30
abbrev n_Lw_name : List Str := ["spring", "letters", "told", "k"]
theorem sc_Lw_name : FnScope n_Lw_name ["spring"] (defScope s_Lw_name) := ⟨rfl, rfl, rfl, by decide +kernel, rfl, by decide +kernel, by decide +kernel⟩
/-- a name -/
def sp_Lw_name (K : PySem.W.Frag) : Sp := fun vs H Q _ => ∃ (s : Addr) (n : Nat), vs = [.ref s] ∧ Spr H s n ∧ n ≤ 1000000000 ∧
  ∀ (x : Str) (H' : Hp), NameOk x → Nx [s] H H' → Spr H' s (n + 9) → Q (.str x) H'
abbrev s_Lw_names : Stmt := topS 31
abbrev n_Lw_names : List Str := ["spring", "many", "told", "k", "one", "at"]
theorem sc_Lw_names : FnScope n_Lw_names ["spring", "many"] (defScope s_Lw_names) := ⟨rfl, rfl, rfl, by decide +kernel, rfl, by decide +kernel, by decide +kernel⟩
/-- so many unlike names, a new list -/
def sp_Lw_names (K : PySem.W.Frag) : Sp := fun vs H Q _ => ∃ (s : Addr) (n m : Nat), vs = [.ref s, .int m] ∧ Spr H s n ∧ n ≤ 100000000 ∧ m ≤ 90 ∧
  ∀ (p : Addr) (xs : List Str) (H' : Hp), H p = none → xs.length = m → (∀ x ∈ xs, NameOk x) → xs.Nodup → H' p = some (.lst (xs.map V.str)) → Nx [s] H H' → Spr H' s (n + m * 12) → Q (.ref p) H'
abbrev s_Lr_lengths : Stmt := topS 32
abbrev n_Lr_lengths : List Str := ["spring", "hours", "many", "shape", "top", "one", "k"]
theorem sc_Lr_lengths : FnScope n_Lr_lengths ["spring", "hours", "many"] (defScope s_Lr_lengths) := ⟨rfl, rfl, rfl, by decide +kernel, rfl, by decide +kernel, by decide +kernel⟩
/-- so many lengths from 1 to hours, a new list -/
def sp_Lr_lengths (K : PySem.W.Frag) : Sp := fun vs H Q _ => ∃ (s : Addr) (n : Nat) (h : Int) (m : Nat), vs = [.ref s, .int h, .int m] ∧ Spr H s n ∧ n ≤ 1000000000 ∧ 1 ≤ h ∧ h ≤ 1000 ∧ m ≤ 1000 ∧
  ∀ (p : Addr) (ys : List Int) (H' : Hp), H p = none → ys.length = m → (∀ y ∈ ys, 1 ≤ y ∧ y ≤ h) → H' p = some (.lst (ys.map V.int)) → Nx [s] H H' → Spr H' s (n + m * 2 + 2) → Q (.ref p) H'
abbrev s_Lr_drawn : Stmt := topS 33
abbrev n_Lr_drawn : List Str := ["spring", "many", "hours", "names", "lengths", "step", "found", "at", "name"]
theorem sc_Lr_drawn : FnScope n_Lr_drawn ["spring", "many"] (defScope s_Lr_drawn) := ⟨rfl, rfl, rfl, by decide +kernel, rfl, by decide +kernel, by decide +kernel⟩
/-- hours and so many arcs, a pair -/
def sp_Lr_drawn (K : PySem.W.Frag) : Sp := fun vs H Q _ => ∃ (s : Addr) (n m : Nat) (S : List Addr), vs = [.ref s, .int m] ∧ Spr H s n ∧ n ≤ 10000000 ∧ m ≤ 90 ∧ s ∈ S ∧ Al S H ∧
  ∀ (t a : Addr) (h : Int) (A : Arcs) (H' : Hp), H t = none → H' t = some (.tup [.int h, .ref a]) → 1 ≤ h → h ≤ 1000 → H a = none → Im S H' (.ref a) (arcsD A) → ArcsOk h A → A.length = m → Nx [s] H H' → Spr H' s (n + m * 15 + 10) → Q (.ref t) H'
abbrev s_Lsame : Stmt := topS 28
abbrev n_Lsame : List Str := ["found", "due", "is_alike", "one", "other"]
theorem sc_Lsame : FnScope n_Lsame ["found", "due"] (defScope s_Lsame) := ⟨rfl, rfl, rfl, by decide +kernel, rfl, by decide +kernel, by decide +kernel⟩
/-- two of the same data: True -/
def sp_LsameN (K : PySem.W.Frag) (n : Nat) : Sp := fun vs H Q _ => ∃ (v w : V) (d : PyData), vs = [v, w] ∧ Im [] H v d ∧ Im [] H w d ∧ dep d < n ∧ sm d = true ∧ ∀ H', Nx [] H H' → Q (.bl true) H'
def sp_Lsame (K : PySem.W.Frag) : Sp := sp_LsameN K 10
theorem void_Lsame {K : PySem.W.Frag} (vs : List V) (H : Hp) (Q : VK) (E : XK) : ¬ sp_LsameN K 0 vs H Q E := fun ⟨_, _, _, _, _, _, h, _⟩ => Nat.not_lt_zero _ h
abbrev s_Lloose : Stmt := topS 29
abbrev n_Lloose : List Str := ["spring", "thing", "found", "part", "key"]
theorem sc_Lloose : FnScope n_Lloose ["spring", "thing"] (defScope s_Lloose) := ⟨rfl, rfl, rfl, by decide +kernel, rfl, by decide +kernel, by decide +kernel⟩
/-- the data, told loosely: new, beside S -/
def sp_LlooseN (K : PySem.W.Frag) (n : Nat) : Sp := fun vs H Q _ => ∃ (s : Addr) (v : V) (d : PyData) (S : List Addr) (m : Nat), vs = [.ref s, v] ∧ s ∈ S ∧ Al S H ∧ Im S H v d ∧ Spr H s m ∧ m + wt d ≤ 10000000 ∧ dep d < n ∧ sm d = true ∧
  ∀ v' d' H', Lo d d' → Im S H' v' d' → Nx [s] H H' → Spr H' s (m + wt d) → Q v' H'
def sp_Lloose (K : PySem.W.Frag) : Sp := sp_LlooseN K 13
theorem void_Lloose {K : PySem.W.Frag} (vs : List V) (H : Hp) (Q : VK) (E : XK) : ¬ sp_LlooseN K 0 vs H Q E := fun ⟨_, _, _, _, _, _, _, _, _, _, _, h, _⟩ => Nat.not_lt_zero _ h
abbrev s_is_integer : Stmt := topS 4
abbrev n_is_integer : List Str := ["thing"]
theorem sc_is_integer : FnScope n_is_integer ["thing"] (defScope s_is_integer) := ⟨rfl, rfl, rfl, by decide +kernel, rfl, by decide +kernel, by decide +kernel⟩
def sp_is_integer (_ : PySem.W.Frag) : Sp := fun vs H Q _ => ∃ (v : V) (S : List Addr) (d : PyData), vs = [v] ∧ Im S H v d ∧ Q (.bl (isIntB d)) H
abbrev s_is_between : Stmt := topS 5
abbrev n_is_between : List Str := ["thing", "low", "high"]
theorem sc_is_between : FnScope n_is_between ["thing", "low", "high"] (defScope s_is_between) := ⟨rfl, rfl, rfl, by decide +kernel, rfl, by decide +kernel, by decide +kernel⟩
def sp_is_between (_ : PySem.W.Frag) : Sp := fun vs H Q _ => ∃ (v : V) (lo hi : Int) (S : List Addr) (d : PyData), vs = [v, .int lo, .int hi] ∧ Im S H v d ∧ Q (.bl (betB d lo hi)) H
abbrev s_is_list : Stmt := topS 6
abbrev n_is_list : List Str := ["thing"]
theorem sc_is_list : FnScope n_is_list ["thing"] (defScope s_is_list) := ⟨rfl, rfl, rfl, by decide +kernel, rfl, by decide +kernel, by decide +kernel⟩
def sp_is_list (_ : PySem.W.Frag) : Sp := fun vs H Q _ => ∃ (v : V) (S : List Addr) (d : PyData), vs = [v] ∧ Im S H v d ∧ ∀ H', Nx [] H H' → Q (.bl (isListD d || isTupD d)) H'
abbrev s_is_name : Stmt := topS 7
abbrev n_is_name : List Str := ["thing", "sign"]
theorem sc_is_name : FnScope n_is_name ["thing"] (defScope s_is_name) := ⟨rfl, rfl, rfl, by decide +kernel, rfl, by decide +kernel, by decide +kernel⟩
def sp_is_name (_ : PySem.W.Frag) : Sp := fun vs H Q _ => ∃ (v : V) (S : List Addr) (d : PyData), vs = [v] ∧ Im S H v d ∧ sm d = true ∧ ∀ H', Nx [] H H' → Q (.bl (nameB d)) H'
abbrev s_check_hours : Stmt := topS 19
abbrev n_check_hours : List Str := ["hours"]
theorem sc_check_hours : FnScope n_check_hours ["hours"] (defScope s_check_hours) := ⟨rfl, rfl, rfl, by decide +kernel, rfl, by decide +kernel, by decide +kernel⟩
def sp_check_hours (_ : PySem.W.Frag) : Sp := fun vs H Q _ => ∃ (h : Int), vs = [.int h] ∧ 1 ≤ h ∧ h ≤ 1000 ∧ Q .non H
abbrev s_are_arcs : Stmt := topS 20
abbrev n_are_arcs : List Str := ["hours", "thing", "name", "start", "length"]
theorem sc_are_arcs : FnScope n_are_arcs ["hours", "thing"] (defScope s_are_arcs) := ⟨rfl, rfl, rfl, by decide +kernel, rfl, by decide +kernel, by decide +kernel⟩
def sp_are_arcs (_ : PySem.W.Frag) : Sp := fun vs H Q _ => ∃ (h : Int) (v : V) (S : List Addr) (d : PyData), vs = [.int h, v] ∧ Im S H v d ∧ sm d = true ∧ ∀ H', Nx [] H H' → Q (.bl (arcsB h d)) H'
abbrev s_Ring_init : Stmt := inClass (topS 21) 0
abbrev n_Ring_init : List Str := ["self", "hours", "arcs", "name"]
theorem sc_Ring_init : FnScope n_Ring_init ["self", "hours", "arcs"] (defScope s_Ring_init) := ⟨rfl, rfl, rfl, by decide +kernel, rfl, by decide +kernel, by decide +kernel⟩
def sp_Ring_init (_ : PySem.W.Frag) (C : Addr) : Sp := fun vs H Q _ => ∃ (x dx : Addr) (h : Int) (v : V) (S : List Addr) (A : Arcs) (d : PyData), vs = [.ref x, .int h, v] ∧ H x = some (.ins C dx []) ∧ Al (x :: S) H ∧ Im (x :: S) H v d ∧ Lo (arcsD A) d ∧ ArcsOk h A ∧ A.length ≤ 40 ∧ 1 ≤ h ∧ h ≤ 1000 ∧
  ∀ (ys : List Str) (d' : Addr) (H' : Hp), ys.Perm (A.map (·.1)) → sortedS ys = true → Nx [x] H H' → H' x = some (.ins C dx [("own_hours", .int h), ("own_arcs", .ref d')]) → Im (x :: S) H' (.ref d') (arcsD (arcsBy A ys)) → Q .non H'
theorem s_ringMade {K : PySem.W.Frag} {C : Addr} {H1 : Hp} {Q : Addr → Hp → Prop} {E : XK} {hh : Int} {v : V} {S : List Addr} {A : Arcs} {d : PyData} (al : Al S H1) (iv : Im S H1 v d) (lo : Lo (arcsD A) d) (ok : ArcsOk hh A) (hA : A.length ≤ 40) (h1 : 1 ≤ hh) (h2 : hh ≤ 1000)
    (q : ∀ x ys H', H1 x = none → ys.Perm (A.map (·.1)) → Nx [] H1 H' → RingR S H' C x hh (arcsBy A ys) → Q x H') :
    ∀ x dx, H1 x = none → H1 dx = none → dx ≠ x → sp_Ring_init K C (.ref x :: ([.int hh, v] ++ [])) (upd (upd H1 dx (.own x)) x (.ins C dx [])) (fun v H2 => v = .non ∧ Q x H2) E := by
  intro x dx nx nd ne
  have g1 : Nx [] H1 (upd (upd H1 dx (.own x)) x (.ins C dx [])) := (Nx.new nd).newP (by rw [upd_ne ne.symm]; exact nx)
  refine ⟨x, dx, hh, v, S, A, d, rfl, upd_same, (al.mono g1).cons upd_same, Im.over nx g1.of0 iv, lo, ok, hA, h1, h2, fun ys d' H' hp _ g ex io => ⟨rfl, q x ys H' nx hp ((g1.of0.trans g).drop nx) ⟨al.ne nx, dx, d', ex, io.tail⟩⟩⟩
abbrev s_Ring_len : Stmt := inClass (topS 21) 1
abbrev n_Ring_len : List Str := ["self"]
theorem sc_Ring_len : FnScope n_Ring_len ["self"] (defScope s_Ring_len) := ⟨rfl, rfl, rfl, by decide +kernel, rfl, by decide +kernel, by decide +kernel⟩
def sp_Ring_len (_ : PySem.W.Frag) (C : Addr) : Sp := fun vs H Q _ => ∃ (a : Addr) (S : List Addr) (h : Int) (A : Arcs), vs = [.ref a] ∧ RingR S H C a h A ∧ Q (.int A.length) H
abbrev s_Ring_contains : Stmt := inClass (topS 21) 3
abbrev n_Ring_contains : List Str := ["self", "name"]
theorem sc_Ring_contains : FnScope n_Ring_contains ["self", "name"] (defScope s_Ring_contains) := ⟨rfl, rfl, rfl, by decide +kernel, rfl, by decide +kernel, by decide +kernel⟩
def hasB (A : Arcs) : PyData → Bool
  | .str x => decide (x ∈ A.map (·.1))
  | _ => false
def sp_Ring_contains (_ : PySem.W.Frag) (C : Addr) : Sp := fun vs H Q _ => ∃ (a : Addr) (S S2 : List Addr) (h : Int) (A : Arcs) (v : V) (d : PyData), vs = [.ref a, v] ∧ RingR S H C a h A ∧ Im S2 H v d ∧ Q (.bl (hasB A d)) H
abbrev s_Ring_hours : Stmt := inClass (topS 21) 5
abbrev n_Ring_hours : List Str := ["self"]
theorem sc_Ring_hours : FnScope n_Ring_hours ["self"] (defScope s_Ring_hours) := ⟨rfl, rfl, rfl, by decide +kernel, rfl, by decide +kernel, by decide +kernel⟩
def sp_Ring_hours (_ : PySem.W.Frag) (C : Addr) : Sp := fun vs H Q _ => ∃ (a : Addr) (S : List Addr) (h : Int) (A : Arcs), vs = [.ref a] ∧ RingR S H C a h A ∧ Q (.int h) H
abbrev s_Ring_names : Stmt := inClass (topS 21) 7
abbrev n_Ring_names : List Str := ["self"]
theorem sc_Ring_names : FnScope n_Ring_names ["self"] (defScope s_Ring_names) := ⟨rfl, rfl, rfl, by decide +kernel, rfl, by decide +kernel, by decide +kernel⟩
def sp_Ring_names (_ : PySem.W.Frag) (C : Addr) : Sp := fun vs H Q _ => ∃ (a : Addr) (S : List Addr) (h : Int) (A : Arcs), vs = [.ref a] ∧ RingR S H C a h A ∧ A.length ≤ 40 ∧
  ∀ (ys : List Str) (p : Addr), ys.Perm (A.map (·.1)) → sortedS ys = true → H p = none → Q (.ref p) (upd H p (.lst (ys.map V.str)))
abbrev s_Ring_arc : Stmt := inClass (topS 21) 8
abbrev n_Ring_arc : List Str := ["self", "name"]
theorem sc_Ring_arc : FnScope n_Ring_arc ["self", "name"] (defScope s_Ring_arc) := ⟨rfl, rfl, rfl, by decide +kernel, rfl, by decide +kernel, by decide +kernel⟩
def sp_Ring_arc (_ : PySem.W.Frag) (C : Addr) : Sp := fun vs H Q _ => ∃ (a : Addr) (S : List Addr) (h : Int) (A : Arcs) (n : Str), vs = [.ref a, .str n] ∧ RingR S H C a h A ∧ (A.map (·.1)).Nodup ∧ n ∈ A.map (·.1) ∧
  ∀ v, Im S H v (arcD (arcOf A n)) → Q v H
abbrev s_is_map : Stmt := topS 15
abbrev n_is_map : List Str := ["ring", "twin", "by", "thing", "seen", "name", "start", "length"]
theorem sc_is_map : FnScope n_is_map ["ring", "twin", "by", "thing"] (defScope s_is_map) := ⟨rfl, rfl, rfl, by decide +kernel, rfl, by decide +kernel, by decide +kernel⟩
def sp_is_map (_ : PySem.W.Frag) (C : Addr) : Sp := fun vs H Q _ => ∃ (r t : Addr) (h h2 turn : Int) (A B : Arcs) (v : V) (d : PyData), vs = [.ref r, .ref t, .int turn, v] ∧ RingR [] H C r h A ∧ RingR [] H C t h2 B ∧ Im [] H v d ∧ 0 ≤ turn ∧ turn < h ∧ h ≤ 100000 ∧
  (A.map (·.1)).Nodup ∧ (B.map (·.1)).Nodup ∧ A.length ≤ 40 ∧ B.length ≤ 40 ∧ ∀ H', Nx [] H H' → Q (.bl (isMapB h A h2 B turn d)) H'
abbrev s_La_is_map : Stmt := topS 37
abbrev n_La_is_map : List Str := ["hours", "arcs", "other", "by", "thing", "name"]
theorem sc_La_is_map : FnScope n_La_is_map ["hours", "arcs", "other", "by", "thing"] (defScope s_La_is_map) := ⟨rfl, rfl, rfl, by decide +kernel, rfl, by decide +kernel, by decide +kernel⟩
def sp_La_is_map (_ : PySem.W.Frag) : Sp := fun vs H Q _ => ∃ (va vb v : V) (h turn : Int) (A B : Arcs) (d : PyData), vs = [.int h, va, vb, .int turn, v] ∧ Im [] H va (arcsD A) ∧ Im [] H vb (arcsD B) ∧ Im [] H v d ∧ 0 < h ∧
  (A.map (·.1)).Nodup ∧ (B.map (·.1)).Nodup ∧ A.length ≤ 40 ∧ ∀ H', Nx [] H H' → Q (.bl (isMapB h A h B turn d)) H'
abbrev s_La_moved : Stmt := topS 38
abbrev n_La_moved : List Str := ["spring", "hours", "arcs", "by", "names", "found", "name"]
theorem sc_La_moved : FnScope n_La_moved ["spring", "hours", "arcs", "by"] (defScope s_La_moved) := ⟨rfl, rfl, rfl, by decide +kernel, rfl, by decide +kernel, by decide +kernel⟩
def sp_La_moved (_ : PySem.W.Frag) : Sp := fun vs H Q _ => ∃ (s : Addr) (va : V) (h turn : Int) (A : Arcs) (S : List Addr) (n : Nat), vs = [.ref s, .int h, va, .int turn] ∧ s ∈ S ∧ Al S H ∧ Im S H va (arcsD A) ∧ Spr H s n ∧ n ≤ 10000000 ∧ ArcsOk h A ∧ 0 < h ∧ A.length ≤ 40 ∧
  ∀ (t o f : Addr) (ps : List (Str × Str)) (zs : List Str) (H' : Hp), H' t = some (.tup [.ref o, .ref f]) → t ∉ S → (ps.map (·.1)).Perm (A.map (·.1)) → (ps.map (·.2)).Nodup → (∀ p ∈ ps, NameOk p.2) → zs.Perm (A.map (·.1)) →
    Im S H' (.ref o) (arcsD (movedA h turn A ps zs)) → Im S H' (.ref f) (strsD ps) → Nx [s] H H' → Spr H' s (n + 1000) → Q (.ref t) H'
abbrev s_La_drawn : Stmt := topS 42
abbrev n_La_drawn : List Str := ["spring", "many", "hours", "arcs", "parts", "part", "pairs", "name", "names", "at", "pair", "k"]
theorem sc_La_drawn : FnScope n_La_drawn ["spring", "many"] (defScope s_La_drawn) := ⟨rfl, rfl, rfl, by decide +kernel, rfl, by decide +kernel, by decide +kernel⟩
def sp_La_drawn (_ : PySem.W.Frag) : Sp := fun vs H Q _ => ∃ (s : Addr) (n m : Nat) (S : List Addr), vs = [.ref s, .int m] ∧ Spr H s n ∧ n ≤ 1000000 ∧ m ≤ 10 ∧ s ∈ S ∧ Al S H ∧
  ∀ (t a : Addr) (h : Int) (A : Arcs) (H' : Hp), H' t = some (.tup [.int h, .ref a]) → t ∉ S → 1 ≤ h → h ≤ 99 → Im S H' (.ref a) (arcsD A) → ArcsOk h A → A.length ≤ 40 → Nx [s] H H' → Spr H' s (n + 1000) → Q (.ref t) H'
abbrev s_La_bent : Stmt := topS 43
abbrev n_La_bent : List Str := ["spring", "found", "other", "bent", "way", "name", "twin"]
theorem sc_La_bent : FnScope n_La_bent ["spring", "found", "other"] (defScope s_La_bent) := ⟨rfl, rfl, rfl, by decide +kernel, rfl, by decide +kernel, by decide +kernel⟩
def sp_La_bent (_ : PySem.W.Frag) : Sp := fun vs H Q _ => ∃ (s f : Addr) (vo : V) (ps : List (Str × Str)) (S : List Addr) (n : Nat), vs = [.ref s, .ref f, vo] ∧ s ∈ S ∧ Al S H ∧ Im S H (.ref f) (strsD ps) ∧ (∀ p ∈ ps, NameOk p.1) ∧ (∀ p ∈ ps, NameOk p.2) ∧ (ps.map (·.1)).Nodup ∧ ps.length ≤ 40 ∧ Spr H s n ∧ n ≤ 10000000 ∧
  ∀ (v : V) (d : PyData) (H' : Hp), Im S H' v d → Okd d → Nx [s] H H' → Spr H' s (n + 10) → Q v H'
/-- a plain thing and itself: True (an exception may be handled) -/
def sp_LsameW (_ : PySem.W.Frag) : Sp := fun vs H Q _ => ∃ (v : V) (d : PyData), vs = [v, v] ∧ Im [] H v d ∧ isDictD d = false ∧ isListD d = false ∧ isTupD d = false ∧ ∀ H', Nx [] H H' → Q (.bl true) H'
abbrev s_Lvery : Stmt := topS 27
abbrev n_Lvery : List Str := ["kept", "thing", "found"]
theorem sc_Lvery : FnScope n_Lvery ["kept", "thing"] (defScope s_Lvery) := ⟨rfl, rfl, rfl, by decide +kernel, rfl, by decide +kernel, by decide +kernel⟩
/-- the very same thing: True -/
def sp_LveryW (_ : PySem.W.Frag) : Sp := fun vs H Q _ => ∃ (v : V) (d : PyData), vs = [v, v] ∧ Im [] H v d ∧ Unl H v ∧ NoLate d ∧ isTupD d = false ∧ sm d = true ∧ ∀ H', Nx [] H H' → Q (.bl true) H'
/-- a wrong number: BadNumber, with it -/
def sp_is_mapR (_ : PySem.W.Frag) (C CB : Addr) : Sp := fun vs H _ E => ∃ (r t : Addr) (h : Int) (A : Arcs) (v u : V) (d : PyData), vs = [.ref r, .ref t, v, u] ∧ RingR [] H C r h A ∧ Im [] H v d ∧ betB d 0 (h - 1) = false ∧
  ∀ dx, H dx = none → E (.ref CB) (some dx) (upd H dx (.xd [("number", v)]))
abbrev s_La_met : Stmt := topS 44
abbrev n_La_met : List Str := ["call", "thing", "e"]
theorem sc_La_met : FnScope n_La_met ["call", "thing"] (defScope s_La_met) := ⟨rfl, rfl, rfl, by decide +kernel, rfl, by decide +kernel, by decide +kernel⟩
/-- refused: the very object; else False -/
def T2met (CB : Addr) (sp : Sp) : V → (XK → Hp → VK → Prop) → Hp → VK → Prop := fun v tl H Q =>
  tl (fun cls d H' => cls = .ref CB ∧ ∃ (dd : Addr) (u : V), d = some dd ∧ H' dd = some (.xd [("number", u)]) ∧ sp [u, v] H' Q E0) H (fun _ H1 => Q (.bl false) H1)
abbrev s_La_judged : Stmt := topS 45
abbrev n_La_judged : List Str := ["spring", "hours", "arcs", "other", "by", "found", "ring", "twin", "thing", "late", "due", "own", "kept", "told", "k"]
theorem sc_La_judged : FnScope n_La_judged ["spring", "hours", "arcs", "other", "by", "found"] (defScope s_La_judged) := ⟨rfl, rfl, rfl, by decide +kernel, rfl, by decide +kernel, by decide +kernel⟩
def sp_La_judged (_ : PySem.W.Frag) (C P0 : Addr) : Sp := fun vs H Q _ => ∃ (s f : Addr) (va vo : V) (h turn : Int) (A : Arcs) (ps : List (Str × Str)) (zs : List Str) (S : List Addr) (n : Nat), vs = [.ref s, .int h, va, vo, .int turn, .ref f] ∧ s ∈ S ∧ Al S H ∧
  LamX.Tabs [(P0, (("_law_a_judged" : Str) ++ ".<locals>.") ++ "<lambda>")] H ∧ Im S H va (arcsD A) ∧ Im S H vo (arcsD (movedA h turn A ps zs)) ∧ Im S H (.ref f) (strsD ps) ∧ ArcsOk h A ∧ ArcsOk h (movedA h turn A ps zs) ∧ A.length ≤ 40 ∧ ps.length ≤ 40 ∧ (movedA h turn A ps zs).length ≤ 40 ∧
  (∀ p ∈ ps, NameOk p.1) ∧ (∀ p ∈ ps, NameOk p.2) ∧ (ps.map (·.1)).Nodup ∧ 1 ≤ h ∧ h ≤ 99 ∧ 0 ≤ turn ∧ turn < h ∧ Spr H s n ∧ n ≤ 1000000 ∧
  ∀ H', Nt s H H' → LamX.Tabs [(P0, (("_law_a_judged" : Str) ++ ".<locals>.") ++ "<lambda>")] H' → Spr H' s (n + 100000) → Q (.bl true) H'
abbrev s_law : Stmt := topS 46
abbrev n_law : List Str := ["script", "turn", "spring", "hours", "arcs", "by", "other", "found", "fewer", "few", "wide", "same", "one", "two", "name"]
theorem sc_law : FnScope n_law ["script"] (defScope s_law) := ⟨rfl, rfl, rfl, by decide +kernel, rfl, by decide +kernel, by decide +kernel⟩
/-- the law -/
def sp_law (K : PySem.W.Frag) (_ P0 : Addr) : Sp := fun vs H Q _ => ∃ (a : Addr) (ns : List Int), vs = [.ref a] ∧ SqL K H a (ns.map V.int) ∧ ns.length ≤ 63 ∧ H P0 = some (.tbl #[]) ∧ ∀ H', Q (.bl true) H'
local macro_rules | `(tactic| walk_at "st") => `(tactic| repeat (first
  | with_reducible refine s_seq ?_
  | ((with_reducible refine' s_var ?e ?_); (case e => rfl))
  | with_reducible refine s_c ?_
  | with_reducible refine s_asg ?_
  | with_reducible refine s_name ?_
  | with_reducible refine s_op ?_
  | with_reducible refine s_cons ?_
  | with_reducible refine s_nil ?_
  | with_reducible refine s_I0 ?_
  | with_reducible refine s_CB ?_
  | with_reducible refine s_call ?_
  | with_reducible refine s_mk ?_
  | with_reducible refine s_callK ?_
  | with_reducible refine s_ret ?_
  | with_reducible refine s_if ?_
  | with_reducible refine s_test ?_
  | with_reducible refine s_B ?_
  | with_reducible refine s_bl ?_
  | with_reducible refine s_and ?_
  | with_reducible refine s_or ?_
  | with_reducible refine s_not ?_
  | with_reducible refine s_andV ?_
  | with_reducible refine s_orV ?_
  | with_reducible refine s_notV ?_
  | with_reducible refine s_ifE ?_
  | with_reducible refine s_drop ?_
  | with_reducible refine s_next ?_
  | with_reducible refine s_tup ?_
  | with_reducible refine s_lst ?_
  | with_reducible refine s_par2 ?_
  | with_reducible refine s_par3 ?_
  | with_reducible refine s_2 ?_
  | with_reducible refine s_3 ?_
  | with_reducible refine s_sub ?_
  | with_reducible refine s_dput ?_
  | with_reducible refine s_dget ?_
  | with_reducible refine s_un ?_
  | with_reducible refine s_eqI ?_
  | with_reducible refine s_neI ?_
  | with_reducible refine s_eqS ?_
  | with_reducible refine s_neS ?_
  | with_reducible refine s_eqB ?_
  | with_reducible refine s_neB ?_
  | with_reducible refine s_while ?_
  | with_reducible refine s_truU ?_
  | with_reducible refine s_dnew ?_
  | with_reducible refine s_zipA ?_
  | with_reducible refine s_litems ?_
  | ((with_reducible refine' s_isDict ?i ?_); (case i => assumption))
  | ((with_reducible refine' s_isList ?i ?_); (case i => assumption))
  | ((with_reducible refine' s_isTup ?i ?_); (case i => assumption))
  | ((with_reducible refine' s_isStr ?i ?_); (case i => assumption))
  | ((with_reducible refine' s_isInt ?i ?_); (case i => assumption))
  | ((with_reducible refine' s_isBool ?i ?_); (case i => assumption))
  | with_reducible refine s_for ?_
  | with_reducible refine s_sl ?_
  | with_reducible refine s_nopart ?_
  | with_reducible refine s_part ?_
  | with_reducible refine s_int ?_
  | with_reducible refine s_2i ?_
  | with_reducible refine s_gcons ?_
  | with_reducible refine s_gnil ?_
  | with_reducible refine s_ilist ?_
  | with_reducible refine s_ienum ?_
  | with_reducible refine s_izip ?_
  | with_reducible refine s_istr ?_
  | with_reducible refine s_ikeys ?_
  | with_reducible refine s_iitems ?_
  | with_reducible refine s_ivals ?_
  | ((with_reducible refine' s_gtupN ?e ?_); (case e => rfl))
  | ((with_reducible refine' s_new ?e ?_); (case e => rfl))
  | with_reducible refine s_lc ?_
  | with_reducible refine s_bm ?_
  | with_reducible refine s_bm0 ?_
  | with_reducible refine s_rng1 ?_
  | with_reducible refine s_yes ?_
  | with_reducible refine s_U ?_
  | with_reducible refine s_int1 ?_
  | ((with_reducible refine' s_I ?c ?_); (case c => (first | omega | (unfold CMul; omega) | (unfold CDiv; omega) | (unfold CPow; omega))))
  | with_reducible refine s_retN ?_
  | with_reducible refine s_fld ?_
  | with_reducible refine s_mkO ?_
  | with_reducible refine s_tp1 ?_
  | with_reducible refine s_tp2 ?_
  | with_reducible refine s_disp ?_
  | with_reducible refine s_dictzip ?_
  | with_reducible refine s_sfld ?_
  | with_reducible refine s_methE ?_
  | with_reducible refine s_make ?_
  | with_reducible refine s_dc ?_
  | with_reducible refine s_chain ?_
  | with_reducible refine ite_eqs ?_
  | with_reducible refine ite_nes ?_
  | with_reducible refine ite_nt ?_
  | with_reducible refine ite_nf ?_
  | with_reducible refine ite_tt ?_
  | with_reducible refine ite_ff ?_
  | dsimp only [List.set_cons_zero, List.set_cons_succ, List.cons_append, List.nil_append, List.append_nil]))
local macro_rules | `(tactic| walk_at "go") => `(tactic| (simp only [cxB, cxOf, L2.start, List.map_cons, List.map_nil, List.length_cons, List.length_nil, Nat.reduceAdd, Nat.reduceSub, List.replicate_succ, List.replicate_zero, List.cons_append, List.nil_append]; walk_at "st"))
local macro_rules | `(tactic| walk_at "sub") => `(tactic| first
  | assumption
  | exact sub_nil
  | exact sub_self
  | (refine sub_one ?_; first | assumption | exact List.mem_cons_self | (simp; done))
  | (refine sub_tl ?_; walk_at "sub")
  | (refine sub_cons ?_ ?_ <;> first | assumption | exact List.mem_cons_self | walk_at "sub"))
local macro_rules | `(tactic| walk_at "th") => `(tactic| first
  | exact Th.refl _
  | (with_reducible refine Th.newP ?_; walk_at "th")
  | (refine Th.step (by assumption) ?_; walk_at "th"))
local macro_rules | `(tactic| walk_at "no") => `(tactic| first | assumption | (refine no_to (by assumption) ?_; walk_at "th"))
local macro_rules | `(tactic| walk_at "nx") => `(tactic| first
  | exact Nx.refl _ _
  | assumption
  | (with_reducible refine Nx.newP ?_ (by assumption); walk_at "nx")
  | (refine Nx.step (by assumption) ?_ ?_; (walk_at "sub"); (walk_at "nx")))
local macro_rules | `(tactic| walk_at "ap") => `(tactic| first
  | exact ap_nil
  | exact ap_self
  | (refine ap_sub ?_; walk_at "sub")
  | (refine ap_cons ?_ ?_; (walk_at "no"); (walk_at "ap"))
  | (refine ap_in ?_ ?_; (first | assumption | exact List.mem_cons_self); (walk_at "ap")))
local macro_rules | `(tactic| walk_at "al") => `(tactic| first
  | assumption
  | exact upd_ne_none
  | exact Spr.al (by assumption)
  | exact al_at (by assumption)
  | (refine al_to (by assumption) ?_; walk_at "th")
  | (refine al_to (al_at (by assumption)) ?_; walk_at "th"))
local macro_rules | `(tactic| walk_at "fx") => `(tactic| first
  | assumption
  | (with_reducible refine Im.to (by assumption) ?_ ?_; (walk_at "ap"); (walk_at "nx"))
  | (with_reducible refine ImAll.to (by assumption) ?_ ?_; (walk_at "ap"); (walk_at "nx"))
  | (with_reducible refine ImKv.to (by assumption) ?_ ?_; (walk_at "ap"); (walk_at "nx"))
  | (with_reducible refine RingR.to (by assumption) ?_ ?_; (walk_at "ap"); (walk_at "nx"))
  | (with_reducible refine Spr.to (by assumption) ?_ ?_; (walk_at "nx"); (omega))
  | exact Al.nil
  | (with_reducible refine Al.to (by assumption) ?_; walk_at "th")
  | (with_reducible refine Al.add ?_ ?_; (walk_at "al"); (walk_at "fx"))
  | (with_reducible refine tabs_to (by assumption) ?_; walk_at "nx")
  | (walk_at "nx"))

theorem ok_Ldraw {P : Program} {w : World} {K : PySem.W.Frag} {mg : Str → Option Value} {base : Heap} (T : Bn mg) 
    {f : Addr} {fd : FuncData} (F : FunD K "_law_draw" "_law_draw" (defArgs s_Ldraw) (defBody s_Ldraw) (defScope s_Ldraw) [] [] f fd) :
    FnOk P w K mg base CX0 1 f fd ["spring", "many"] (sp_Ldraw K) := by
  refine F.ok sc_Ldraw (fun vs H Q E h => ?_) (fun cdv A outer s H vs Q E hr h => ?_)
  · obtain ⟨s, n, m, rfl, _⟩ := h
    rfl
  · obtain ⟨s, n, m, rfl, hs, hn, hm, hm2, q⟩ := h
    obtain ⟨x, y, z, e, hx, hy, hy2, hz, hz2⟩ := hs.ex
    refine ⟨_, PSs.nox (pss_cons (ps_if (pt_cmpR op_gt (pe_ix (kx_list K) (pv 0) pe_int (fun _ _ => rfl)) pe_int (nomark _)) (pss_cons (ps_set (i := 2) sc_Ldraw.nd rfl (Or.inl rfl) (pe_op op_mod (pe_callTy call_int1 (by rfl) T.int (by decide +kernel) (pa_cons (pe_ix (kx_list K) (pv 0) pe_int (fun _ _ => rfl)) pa_nil)) (pv 1)))
    (pss_cons (ps_asg (pe_op op_fdiv (pe_ix (kx_list K) (pv 0) pe_int (fun _ _ => rfl)) (pv 1)) (pg_sub (pv 0) pe_int set_list))
    (pss_one (ps_ret (pv 2))))) pss_nil)
    (pss_cons (ps_asg (pe_op op_add (pe_ix (kx_list K) (pv 0) pe_int (fun _ _ => rfl)) pe_int) (pg_sub (pv 0) pe_int set_list))
    (pss_cons (ps_set (i := 3) sc_Ldraw.nd rfl (Or.inl rfl) (pe_op op_mod (pe_op op_pow (pe_callTy call_int1 (by rfl) T.int (by decide +kernel) (pa_cons (pe_op op_add (pe_op op_add (pe_ix (kx_list K) (pv 0) pe_int (fun _ _ => rfl)) (pe_op op_mul pe_int (pe_ix (kx_list K) (pv 0) pe_int (fun _ _ => rfl)))) pe_int) pa_nil)) pe_int) pe_int))
    (pss_one (ps_ret (pe_op op_mod (pe_op op_fdiv (pe_op op_mod (pe_op op_pow (pe_callTy call_int1 (by rfl) T.int (by decide +kernel) (pa_cons (pe_op op_add (pe_op op_mul (pv 3) pe_int) (pe_op op_mul pe_int (pe_ix (kx_list K) (pv 0) pe_int (fun _ _ => rfl)))) pa_nil)) pe_int) pe_int) pe_int) (pv 1))))))), ?_⟩
    walk_at "go"
    refine s_ixl (.of e) (atI_at (j := 0) rfl rfl) ?_
    walk_at "st"
    refine ite_b (fun hc => ?_) (fun hc => ?_)
    · have hc := of_decide_eq_true hc
      walk_at "st"
      refine s_ixl (.of e) (atI_at (j := 0) rfl rfl) ?_
      walk_at "st"
      refine s_ixl (.of e) (atI_at (j := 0) rfl rfl) ?_
      walk_at "st"
      refine ⟨s, _, 0, 0, rfl, rfl, e, rfl, ?_⟩
      walk_at "st"
      exact q _ _ (Int.emod_nonneg _ (by omega)) (Int.emod_lt_of_pos _ hm) (.put (by simp)) ⟨_, y, z, upd_same, Int.ediv_nonneg hx (by omega), hy, hy2, hz, by omega⟩
    · walk_at "st"
      refine s_ixl (.of e) (atI_at (j := 2) rfl rfl) ?_
      walk_at "st"
      refine ⟨s, _, 2, 2, rfl, rfl, e, rfl, ?_⟩
      walk_at "st"
      have e1 : (upd H s (.lst [.int x, .int y, .int (z + 1)])) s = some (.lst [.int x, .int y, .int (z + 1)]) := upd_same
      refine s_ixl (.of e1) (atI_at (j := 1) rfl rfl) ?_
      walk_at "st"
      refine s_ixl (.of e1) (atI_at (j := 2) rfl rfl) ?_
      walk_at "st"
      refine s_ixl (.of e1) (atI_at (j := 2) rfl rfl) ?_
      have h1 : 0 ≤ (y + 6364137 * (z + 1) + 1442695) ^ Int.toNat 3 % 2147483647 := Int.emod_nonneg _ (by decide)
      have h2 : (y + 6364137 * (z + 1) + 1442695) ^ Int.toNat 3 % 2147483647 < 2147483647 := Int.emod_lt_of_pos _ (by decide)
      generalize (y + 6364137 * (z + 1) + 1442695) ^ Int.toNat 3 % 2147483647 = r at h1 h2 ⊢
      walk_at "st"
      exact q _ _ (Int.emod_nonneg _ (show m ≠ 0 by omega)) (Int.emod_lt_of_pos _ hm) (.put (by simp)) ⟨x, y, z + 1, e1, hx, hy, hy2, by omega, by omega⟩


theorem ok_Lpick {P : Program} {w : World} {K : PySem.W.Frag} {mg : Str → Option Value} {base : Heap} (T : Bn mg)
    (C_Ldraw : Df P w K mg base CX0 1 "_law_draw" ["spring", "many"] (sp_Ldraw K)) 
    {f : Addr} {fd : FuncData} (F : FunD K "_law_pick" "_law_pick" (defArgs s_Lpick) (defBody s_Lpick) (defScope s_Lpick) [] [] f fd) :
    FnOk P w K mg base CX0 2 f fd ["spring", "some"] (sp_Lpick K) := by
  refine F.ok sc_Lpick (fun vs H Q E h => ?_) (fun cdv A outer s H vs Q E hr h => ?_)
  · obtain ⟨s, a, n, xs, rfl, _⟩ := h
    rfl
  · obtain ⟨s, a, n, xs, rfl, hs, hn, ha, hne, h0, h1, q⟩ := h
    refine ⟨_, PSs.nox (pss_one (ps_ret (pe_ix (kx_list K) (pv 1) (pe_df C_Ldraw hr (pa_cons (pv 0) (pa_cons (pe_callB (klen K) (by rfl) T.len (by decide +kernel) (pa_cons (pv 1) pa_nil)) pa_nil))) (fun _ _ => rfl)))), ?_⟩
    walk_at "go"
    refine ⟨_, _, rfl, .inl (len_l ha), ?_⟩
    walk_at "st"
    refine ⟨s, n, xs.length, rfl, hs, hn, by omega, by omega, fun d H1 d0 d1 g hs1 => ?_⟩
    have hd : d.toNat < xs.length := by omega
    refine s_ixl (sql_nx g (by simpa using hne) ha) (atI_at (j := d.toNat) (List.getElem?_eq_getElem hd) (by omega)) ?_
    exact q _ _ (List.getElem_mem hd) g hs1

theorem perm_take {α : Type} {acc lf xs : List α} {k : Nat} {y : α} (h : (acc ++ lf).Perm xs) (hy : lf[k]? = some y) : (acc ++ [y] ++ lf.eraseIdx k).Perm xs := by
  have p := perm_erase hy
  rw [List.append_assoc]
  exact (List.Perm.append_left acc p).trans h
theorem ok_Lmixed {P : Program} {w : World} {K : PySem.W.Frag} {mg : Str → Option Value} {base : Heap} (T : Bn mg)
    (C_Ldraw : Df P w K mg base CX0 1 "_law_draw" ["spring", "many"] (sp_Ldraw K)) 
    {f : Addr} {fd : FuncData} (F : FunD K "_law_mixed" "_law_mixed" (defArgs s_Lmixed) (defBody s_Lmixed) (defScope s_Lmixed) [] [] f fd) :
    FnOk P w K mg base CX0 2 f fd ["spring", "some"] (sp_Lmixed K) := by
  refine F.ok sc_Lmixed (fun vs H Q E h => ?_) (fun cdv A outer s H vs Q E hr h => ?_)
  · obtain ⟨s, a, n, xs, rfl, _⟩ := h
    rfl
  · obtain ⟨s, a, n, xs, rfl, hs, hn, ha, hne, h1, q⟩ := h
    refine ⟨_, PSs.nox (pss_cons (ps_set (i := 2) sc_Lmixed.nd rfl (Or.inr rfl) (pe_callTy (klist_of K) (by rfl) T.list (by decide +kernel) (pa_cons (pv 1) pa_nil)))
    (pss_one (ps_ret (pe_lc (own := [("k", 3)]) (tt := tYes) rfl sc_Lmixed.nd (pi_range1 (by rfl) T.range (pa_cons (pe_callB (klen K) (by rfl) T.len (by decide +kernel) (pa_cons (pv 2) pa_nil)) pa_nil)) (blkOk_by (N := n_Lmixed) (sc := defScope s_Lmixed) (by decide +kernel)) (fun _ _ _ _ _ => (pg_name (i := 3) sc_Lmixed.nd rfl (Or.inl rfl))) (fun _ _ _ _ _ => pts_nil) (fun _ _ _ _ _ => (kbm K PySem.F.plainAttrs_list PySem.F.slot_list_pop PySem.F.type_list_pop mt_popAt (pv 2) (pa_cons (pe_df C_Ldraw hr (pa_cons (pv 0) (pa_cons (pe_callB (klen K) (by rfl) T.len (by decide +kernel) (pa_cons (pv 2) pa_nil)) pa_nil))) pa_nil))))))), ?_⟩
    walk_at "go"
    refine ⟨_, _, rfl, .inl ha, fun l nl => ?_⟩
    walk_at "st"
    have hls : s ≠ l := fun z => hs.al (by rw [z]; exact nl)
    have g0 : Nx [s] H (upd H l (.lst xs)) := .new nl
    refine ⟨_, _, rfl, .inl (len_l (.of upd_same)), ?_⟩
    walk_at "st"
    refine ⟨_, rfl, by omega, by omega, fun D nD => ?_⟩
    have hDl : D ≠ l := fun z => by rw [z, upd_same] at nD; cases nD
    have hDs : s ≠ D := fun z => (g0.th s hs.al) (by rw [z]; exact nD)
    refine lc_range (fun i H' => ∃ acc lf, H' D = some (.lst acc) ∧ H' l = some (.lst lf) ∧ acc.length = i ∧ (acc ++ lf).Perm xs ∧ Nx [s] H H' ∧ Spr H' s (n + i)) ?_ ?_ ?_
    · exact ⟨[], xs, upd_same, by rw [upd_ne hDl.symm, upd_same], rfl, .refl _, g0.newP nD, (hs.nx (S := []) (.new nl) (by simp)).nx (S := []) (.new nD) (by simp)⟩
    · rintro i H1 hi ⟨acc, lf, eD, el, hl, hp, g1, hs1⟩
      have hlen := hp.length_eq
      rw [List.length_append] at hlen
      walk_at "st"
      refine ⟨rfl, ?_⟩
      walk_at "st"
      refine ⟨.inl ⟨rfl, _, .of el⟩, ?_⟩
      walk_at "st"
      refine ⟨_, _, rfl, .inl (len_l (.of el)), ?_⟩
      walk_at "st"
      refine ⟨s, n + i, lf.length, rfl, hs1, by omega, by omega, by omega, fun d H2 d0 d1 g2 hs2 => ?_⟩
      have el2 := g2.kp l _ (by simpa using hls.symm) el
      have eD2 := g2.kp D _ (by simpa using hDs.symm) eD
      have hd : d.toNat < lf.length := by omega
      refine ⟨l, lf, d, d.toNat, lf[d.toNat], rfl, rfl, el2, by omega, by omega, by rw [seqIndex_of d0 d1], List.getElem?_eq_getElem hd, ?_⟩
      have hn2 : H l = none := nl
      refine ⟨acc, by rw [upd_ne hDl]; exact eD2, Nat.lt_of_lt_of_le (show acc.length < 100000 by omega) (by decide), acc ++ [lf[d.toNat]], lf.eraseIdx d.toNat, upd_same, by rw [upd_ne hDl.symm, upd_same], by simp [hl], perm_take hp (List.getElem?_eq_getElem hd), ?_, ?_⟩
      · have ga : Nx [D, l, s] H1 (upd (upd H2 l (.lst (lf.eraseIdx d.toNat))) D (.lst (acc ++ [lf[d.toNat]]))) := ((g2.sing (by simp)).putP (by simp)).putP (by simp)
        exact (((g1.sing (by simp)).trans ga).drop (Nx.fresh g0 nD)).drop nl
      · exact (hs2.nx (S := [l]) (.put (by simp)) (by simpa using hls)).nx (S := [D]) (.put (by simp)) (by simpa using hDs)
    · rintro H1 ⟨acc, lf, eD, el, hl, hp, g1, hs1⟩
      have hlen := hp.length_eq
      rw [List.length_append] at hlen
      have e0 : lf = [] := List.length_eq_zero_iff.mp (by simp at hl; omega)
      subst e0
      rw [List.append_nil] at hp
      exact q D acc H1 (Nx.fresh g0 nD) hp eD g1 (by simpa using hs1)


theorem ok_Lspring {P : Program} {w : World} {K : PySem.W.Frag} {mg : Str → Option Value} {base : Heap} (T : Bn mg) 
    {f : Addr} {fd : FuncData} (F : FunD K "_law_spring" "_law_spring" (defArgs s_Lspring) (defBody s_Lspring) (defScope s_Lspring) [] [] f fd) :
    FnOk P w K mg base CX0 1 f fd ["script", "turn"] (sp_Lspring K) := by
  refine F.ok sc_Lspring (fun vs H Q E h => ?_) (fun cdv A outer s H vs Q E hr h => ?_)
  · obtain ⟨a, ns, t, rfl, _⟩ := h
    rfl
  · obtain ⟨a, ns, t, rfl, ha, hl, ht, q⟩ := h
    refine ⟨_, PSs.nox (pss_cons (ps_parG2 (i1 := 2) (i2 := 3) rfl sc_Lspring.nd rfl rfl (by decide) (Or.inl rfl) (Or.inl rfl) (pa_cons (pe_ifExp (pt_cmpR op_lt (pv 1) (pe_callB (klen K) (by rfl) T.len (by decide +kernel) (pa_cons (pv 0) pa_nil)) (nomark _)) (pe_ix (kx_list K) (pv 0) (pv 1) (fun _ _ => rfl)) (pe_op op_add (pe_op op_mul pe_int (pv 1)) (pe_callB (klen K) (by rfl) T.len (by decide +kernel) (pa_cons (pv 0) pa_nil)))) (pa_cons (pe_op op_add pe_int (pe_op op_mul pe_int (pv 1))) pa_nil)) (by rfl))
    (pss_cons (ps_for PassesOwn.never rfl (ki_enum K (by rfl) T.enumerate (pa_cons (pe_slice (ksl_list K) (pv 0) po_none (po_some pe_int)) pa_nil)) (kgtup (n := 2) K rfl (pgs_cons (pg_name (i := 4) sc_Lspring.nd rfl (Or.inl rfl)) (pgs_cons (pg_name (i := 5) sc_Lspring.nd rfl (Or.inl rfl)) pgs_nil)))
      (pss_one (ps_set (i := 3) sc_Lspring.nd rfl (Or.inl rfl) (pe_op op_mod (pe_callTy call_int1 (by rfl) T.int (by decide +kernel) (pa_cons (pe_op op_add (pe_op op_add (pe_op op_add (pe_op op_mul (pv 3) pe_int) (pv 5)) (pe_op op_mul pe_int (pv 4))) pe_int) pa_nil)) pe_int))))
    (pss_one (ps_ret (pe_lst (pa_cons (pe_ifExp (pt_cmpR op_ge (pv 2) (pe_op op_pow pe_int pe_int) (nomark _)) (pv 2) pe_int) (pa_cons (pe_op op_mod (pe_callTy call_int1 (by rfl) T.int (by decide +kernel) (pa_cons (pe_op op_add (pv 3) (pe_op op_mul (pv 2) pe_int)) pa_nil)) pe_int) (pa_cons pe_int pa_nil)))))))), ?_⟩
    walk_at "go"
    refine ⟨_, _, rfl, .inl (len_l ha), ?_⟩
    walk_at "st"
    have cut : cutV (ns.map V.int) none (some 63) = ns.map V.int := by
      unfold cutV
      rw [HT.sIx_none, show ((63 : Int)) = ((63 : Nat) : Int) from rfl, HT.sIx_nat, List.length_map]
      simp only [List.drop_zero, Nat.sub_zero]
      exact List.take_of_length_le (by rw [List.length_map]; omega)
    refine ite_d (fun hc => ?_) (fun hc => ?_)
    · rw [List.length_map] at hc
      have ht' : t < ns.length := by omega
      walk_at "st"
      refine s_ixl ha (atI_at (j := t) (v := .int ns[t]) (by rw [List.getElem?_map, List.getElem?_eq_getElem ht']; rfl) rfl) ?_
      generalize ns[t] = cell
      walk_at "st"
      refine ⟨a, _, rfl, ha, fun p np => ?_⟩
      rw [cut]
      walk_at "st"
      refine ⟨p, _, rfl, .of upd_same, ?_⟩
      refine for_runs (runs_enum (xs := ns.map V.int)) (fun i σ H' => ∃ mix y4 y5, σ = [some (V.ref a), some (.int t), some (.int cell), some (.int mix), y4, y5] ∧ 0 ≤ mix ∧ mix < 2147483647 ∧ Nx [] H H' ∧ H' p = some (.lst (ns.map V.int))) ?_ ?_ ?_ ?_
      · exact ⟨_, _, _, rfl, by omega, by omega, .new np, upd_same⟩
      · rintro i σ H' ⟨_, _, _, _, _, _, _, e⟩
        exact .of e
      · rintro i σ H1 x H2 hi ⟨mix, y4, y5, rfl, m0, m1, g, e⟩ ⟨T1, x1, rfl, nT, rfl, ex⟩
        obtain ⟨z, rfl⟩ : ∃ z, x1 = .int z := by
          rw [List.getElem?_map] at ex
          obtain ⟨z, _, e⟩ := Option.map_eq_some_iff.mp ex
          exact ⟨z, e.symm⟩
        walk_at "st"
        exact ⟨_, _, _, rfl, Int.emod_nonneg _ (by decide), Int.lt_trans (Int.emod_lt_of_pos _ (by decide)) (by decide), g.newP nT, by rw [upd_ne (ne_of_none e nT)]; exact e⟩
      · rintro σ H1 ⟨mix, y4, y5, rfl, m0, m1, g, e⟩
        walk_at "st"
        refine ite_d (fun h9 => ?_) (fun h9 => ?_)
        · walk_at "st"
          intro s ns1
          have h0 : (0 : Int) ≤ cell := Int.le_trans (by decide) h9
          exact q s _ (Nx.fresh g ns1) (g.newP ns1) ⟨_, _, _, upd_same, h0, Int.emod_nonneg _ (by decide), Int.emod_lt_of_pos _ (by decide), by omega, by omega⟩
        · walk_at "st"
          intro s ns1
          exact q s _ (Nx.fresh g ns1) (g.newP ns1) ⟨_, _, _, upd_same, by omega, Int.emod_nonneg _ (by decide), Int.emod_lt_of_pos _ (by decide), by omega, by omega⟩
    · walk_at "st"
      refine ⟨_, _, rfl, .inl (len_l ha), ?_⟩
      walk_at "st"
      generalize 7 * (t : Int) + ((ns.map V.int).length : Nat) = cell
      walk_at "st"
      refine ⟨a, _, rfl, ha, fun p np => ?_⟩
      rw [cut]
      walk_at "st"
      refine ⟨p, _, rfl, .of upd_same, ?_⟩
      refine for_runs (runs_enum (xs := ns.map V.int)) (fun i σ H' => ∃ mix y4 y5, σ = [some (V.ref a), some (.int t), some (.int cell), some (.int mix), y4, y5] ∧ 0 ≤ mix ∧ mix < 2147483647 ∧ Nx [] H H' ∧ H' p = some (.lst (ns.map V.int))) ?_ ?_ ?_ ?_
      · exact ⟨_, _, _, rfl, by omega, by omega, .new np, upd_same⟩
      · rintro i σ H' ⟨_, _, _, _, _, _, _, e⟩
        exact .of e
      · rintro i σ H1 x H2 hi ⟨mix, y4, y5, rfl, m0, m1, g, e⟩ ⟨T1, x1, rfl, nT, rfl, ex⟩
        obtain ⟨z, rfl⟩ : ∃ z, x1 = .int z := by
          rw [List.getElem?_map] at ex
          obtain ⟨z, _, e⟩ := Option.map_eq_some_iff.mp ex
          exact ⟨z, e.symm⟩
        walk_at "st"
        exact ⟨_, _, _, rfl, Int.emod_nonneg _ (by decide), Int.lt_trans (Int.emod_lt_of_pos _ (by decide)) (by decide), g.newP nT, by rw [upd_ne (ne_of_none e nT)]; exact e⟩
      · rintro σ H1 ⟨mix, y4, y5, rfl, m0, m1, g, e⟩
        walk_at "st"
        refine ite_d (fun h9 => ?_) (fun h9 => ?_)
        · walk_at "st"
          intro s ns1
          have h0 : (0 : Int) ≤ cell := Int.le_trans (by decide) h9
          exact q s _ (Nx.fresh g ns1) (g.newP ns1) ⟨_, _, _, upd_same, h0, Int.emod_nonneg _ (by decide), Int.emod_lt_of_pos _ (by decide), by omega, by omega⟩
        · walk_at "st"
          intro s ns1
          exact q s _ (Nx.fresh g ns1) (g.newP ns1) ⟨_, _, _, upd_same, by omega, Int.emod_nonneg _ (by decide), Int.emod_lt_of_pos _ (by decide), by omega, by omega⟩


theorem ok_Lw_name {P : Program} {w : World} {K : PySem.W.Frag} {mg : Str → Option Value} {base : Heap} (T : Bn mg)
    (C_Ldraw : Df P w K mg base CX0 1 "_law_draw" ["spring", "many"] (sp_Ldraw K))
    (C_Lpick : Df P w K mg base CX0 2 "_law_pick" ["spring", "some"] (sp_Lpick K)) 
    {f : Addr} {fd : FuncData} (F : FunD K "_law_w_name" "_law_w_name" (defArgs s_Lw_name) (defBody s_Lw_name) (defScope s_Lw_name) [] [] f fd) :
    FnOk P w K mg base CX0 3 f fd ["spring"] (sp_Lw_name K) := by
  refine F.ok sc_Lw_name (fun vs H Q E h => ?_) (fun cdv A outer s H vs Q E hr h => ?_)
  · obtain ⟨s, n, rfl, _⟩ := h
    rfl
  · obtain ⟨s, n, rfl, hs, hn, q⟩ := h
    refine ⟨_, PSs.nox (pss_cons (ps_set (i := 1) sc_Lw_name.nd rfl (Or.inl rfl) pe_str)
    (pss_cons (ps_set (i := 2) sc_Lw_name.nd rfl (Or.inl rfl) (pe_ix ix_str (pv 1) (pe_df C_Ldraw hr (pa_cons (pv 0) (pa_cons pe_int pa_nil))) (fun _ _ => rfl)))
    (pss_cons (ps_for PassesOwn.never rfl (pi_range1 (by rfl) T.range (pa_cons (pe_df C_Lpick hr (pa_cons (pv 0) (pa_cons (pe_lst (pa_cons pe_int (pa_cons pe_int (pa_cons pe_int (pa_cons pe_int (pa_cons pe_int (pa_cons pe_int pa_nil))))))) pa_nil))) pa_nil)) (pg_name (i := 3) sc_Lw_name.nd rfl (Or.inl rfl))
      (pss_one (ps_set (i := 2) sc_Lw_name.nd rfl (Or.inl rfl) (pe_op op_add_str (pv 2) (pe_ix ix_str (pv 1) (pe_df C_Ldraw hr (pa_cons (pv 0) (pa_cons pe_int pa_nil))) (fun _ _ => rfl))))))
    (pss_one (ps_ret (pv 2)))))), ?_⟩
    walk_at "go"
    refine ⟨s, n, 26, rfl, hs, by omega, by omega, by omega, fun d H1 d0 d1 g1 hs1 => ?_⟩
    obtain ⟨c, hc, hl⟩ := sig_let d0 d1
    refine ⟨sigS, d, c, rfl, rfl, by decide +kernel, hc, ?_⟩
    walk_at "st"
    intro p np
    have hps : p ≠ s := fun z => hs1.al (by rw [← z]; exact np)
    refine ⟨s, p, _, [.int 0, .int 1, .int 1, .int 2, .int 3, .int 7], rfl, hs1.nx (S := []) (.new np) (by simp), by omega, .of upd_same, hps, by simp, by simp, fun x H2 hx g2 hs2 => ?_⟩
    have hx' : ∃ m : Nat, x = .int m ∧ m ≤ 7 := by
      simp only [List.mem_cons, List.not_mem_nil, or_false] at hx
      rcases hx with rfl | rfl | rfl | rfl | rfl | rfl
      · exact ⟨0, rfl, by omega⟩
      · exact ⟨1, rfl, by omega⟩
      · exact ⟨1, rfl, by omega⟩
      · exact ⟨2, rfl, by omega⟩
      · exact ⟨3, rfl, by omega⟩
      · exact ⟨7, rfl, by omega⟩
    obtain ⟨m, rfl, hm⟩ := hx'
    walk_at "st"
    refine ⟨m, rfl, by omega, by omega, ?_⟩
    have g3 : Nx [s] H H2 := (g1.newP np).trans g2
    refine for_runs runs_range (fun i σ H' => ∃ x y, σ = [some (V.ref s), some (.str sigS), some (.str x), y] ∧ NameOk x ∧ x.length = i + 1 ∧ Nx [s] H H' ∧ Spr H' s (n + 2 + i)) ?_ (fun _ _ _ _ => trivial) ?_ ?_
    · exact ⟨_, _, rfl, .one hl, rfl, g3, hs2⟩
    · rintro i σ H3 _ _ hi ⟨x, y, rfl, ok, hx, g4, hs4⟩ ⟨rfl, rfl⟩
      walk_at "st"
      refine ⟨s, _, 36, rfl, hs4, by omega, by omega, by omega, fun d H4 d0 d1 g5 hs5 => ?_⟩
      obtain ⟨c, hc, hl⟩ := sig_at d0 d1
      refine ⟨sigS, d, c, rfl, rfl, by decide +kernel, hc, ?_⟩
      walk_at "st"
      refine ⟨x, _, rfl, rfl, Nat.le_trans (show x.length + (⟨#[c]⟩ : Str).length ≤ 100 by rw [one_len]; omega) (by decide), ?_⟩
      walk_at "st"
      exact ⟨_, _, rfl, ok.app (by omega) hl, by rw [NameOk.app.StrLaws_len, hx], g4.trans g5, hs5⟩
    · rintro σ H3 ⟨x, y, rfl, ok, hx, g4, hs4⟩
      walk_at "st"
      exact q x _ ok g4 (hs4.le (by omega))

theorem cutS_7 (x : Str) : (cutS x none (some 7)).cps.toList = x.cps.toList.take 7 := by
  show (((x.cps.toList.drop (HT.sIx x.length 0 none)).take (HT.sIx x.length x.length (some 7) - HT.sIx x.length 0 none)).toArray).toList = _
  rw [HT.sIx_none, show ((7 : Int)) = ((7 : Nat) : Int) from rfl, HT.sIx_nat, str_len]
  simp only [List.drop_zero, Nat.sub_zero]
  by_cases h : x.cps.toList.length ≤ 7
  · rw [Nat.min_eq_right h, List.take_length, List.take_of_length_le h]
  · rw [Nat.min_eq_left (by omega)]
/-- a name's first signs, one behind them -/
theorem cut_name {x y : Str} (hx : NameOk x) (hy : ∃ c ∈ sigC, y = ⟨#[c]⟩) : NameOk (cutS x none (some 7) ++ y) := by
  obtain ⟨c, hc, rfl⟩ := hy
  have e : (cutS x none (some 7)).cps.toList = x.cps.toList.take 7 := cutS_7 x
  have hl : (cutS x none (some 7)).length ≤ 7 := by rw [str_len, e, List.length_take]; omega
  refine NameOk.app ⟨?_, by omega, ?_, ?_⟩ hl hc
  · rw [str_len, e, List.length_take, ← str_len]; have := hx.lo; omega
  · obtain ⟨f, h1, h2⟩ := hx.first
    exact ⟨f, by rw [e, List.getElem?_take]; simpa using h1, h2⟩
  · intro d hd
    rw [e] at hd
    exact hx.all d (List.mem_of_mem_take hd)
theorem ok_Lw_names {P : Program} {w : World} {K : PySem.W.Frag} {mg : Str → Option Value} {base : Heap} (T : Bn mg)
    (C_Lw_name : Df P w K mg base CX0 3 "_law_w_name" ["spring"] (sp_Lw_name K))
    (C_Ldraw : Df P w K mg base CX0 1 "_law_draw" ["spring", "many"] (sp_Ldraw K))
    (C_Lpick : Df P w K mg base CX0 2 "_law_pick" ["spring", "some"] (sp_Lpick K)) 
    {f : Addr} {fd : FuncData} (F : FunD K "_law_w_names" "_law_w_names" (defArgs s_Lw_names) (defBody s_Lw_names) (defScope s_Lw_names) [] [] f fd) :
    FnOk P w K mg base CX0 4 f fd ["spring", "many"] (sp_Lw_names K) := by
  refine F.ok sc_Lw_names (fun vs H Q E h => ?_) (fun cdv A outer s H vs Q E hr h => ?_)
  · obtain ⟨s, n, m, rfl, _⟩ := h
    rfl
  · obtain ⟨s, n, m, rfl, hs, hn, hm, q⟩ := h
    refine ⟨_, PSs.nox (pss_cons (ps_set (i := 2) sc_Lw_names.nd rfl (Or.inl rfl) (pe_lst pa_nil))
    (pss_cons (ps_for PassesOwn.never rfl (pi_range1 (by rfl) T.range (pa_cons (pv 1) pa_nil)) (pg_name (i := 3) sc_Lw_names.nd rfl (Or.inl rfl))
      (pss_cons (ps_set (i := 4) sc_Lw_names.nd rfl (Or.inl rfl) (pe_df C_Lw_name hr (pa_cons (pv 0) pa_nil)))
    (pss_cons (ps_if (PW.pt (pw_and (kt_truth K (pv 2) (by intro _; rfl)) (pw_and1 (pt_cmpR op_eq (pe_df C_Ldraw hr (pa_cons (pv 0) (pa_cons pe_int pa_nil))) pe_int (nomark _))))) (pss_one (ps_set (i := 4) sc_Lw_names.nd rfl (Or.inl rfl) (pe_op op_add_str (pe_slice sl_str (pe_df C_Lpick hr (pa_cons (pv 0) (pa_cons (pv 2) pa_nil))) po_none (po_some pe_int)) (pe_df C_Lpick hr (pa_cons (pv 0) (pa_cons (pe_lst (pa_cons pe_str (pa_cons pe_str (pa_cons pe_str (pa_cons pe_str (pa_cons pe_str pa_nil)))))) pa_nil)))))) pss_nil)
    (pss_cons (ps_set (i := 5) sc_Lw_names.nd rfl (Or.inl rfl) pe_int)
    (pss_cons (ps_while PassesOwn.never (pt_cmpR (kin_seq K) (pv 4) (pv 2) (by rfl)) (pss_cons (ps_set (i := 4) sc_Lw_names.nd rfl (Or.inl rfl) (pe_op op_add_str (pe_ix ix_str pe_str (pe_op op_mod (pv 5) pe_int) (fun _ _ => rfl)) (pe_callTy call_str_int (by rfl) T.str (by decide +kernel) (pa_cons (pe_op op_add (pe_op op_fdiv (pv 5) pe_int) (pv 3)) pa_nil))))
    (pss_one (ps_set (i := 5) sc_Lw_names.nd rfl (Or.inl rfl) (pe_op op_add (pv 5) pe_int)))))
    (pss_one (ps_expr (kbm K PySem.F.plainAttrs_list PySem.F.slot_list_append PySem.F.type_list_append mt_append (pv 2) (pa_cons (pv 4) pa_nil)))))))))
    (pss_one (ps_ret (pv 2))))), ?_⟩
    walk_at "go"
    intro p np
    have hps : p ≠ s := fun z => hs.al (by rw [← z]; exact np)
    walk_at "st"
    refine ⟨m, rfl, by omega, by omega, ?_⟩
    refine for_runs runs_range (fun i σ H' => ∃ (xs : List Str) (y3 y4 y5 : Option V), σ = [some (V.ref s), some (.int m), some (.ref p), y3, y4, y5] ∧ xs.length = i ∧ (∀ x ∈ xs, NameOk x) ∧ xs.Nodup ∧ H' p = some (.lst (xs.map V.str)) ∧ Nx [s] H H' ∧ Spr H' s (n + i * 12)) ?_ (fun _ _ _ _ => trivial) ?_ ?_
    · exact ⟨[], _, _, _, rfl, rfl, by simp, List.nodup_nil, upd_same, .new np, by simpa using hs.nx (S := []) (.new np) (by simp)⟩
    · rintro i σ _ _ H1 hi ⟨xs, y3, y4, y5, rfl, hl, ok, nd, e, g, hs1⟩ ⟨rfl, rfl⟩
      walk_at "st"
      apply join2 (fun one H3 => NameOk one ∧ Nx [s] H1 H3 ∧ Spr H3 s (n + i * 12 + 12))
      case h1 =>
        intro k
        refine ⟨s, _, rfl, hs1, by omega, fun x H2 okx g2 hs2 => ?_⟩
        have e2 := g2.kp p _ (by simpa using hps) e
        walk_at "st"
        refine ⟨_, .inl (.inl ⟨_, .of e2, rfl⟩), ?_⟩
        refine ite_b ?a ?b
        case b =>
          intro hb
          walk_at "st"
          exact k _ H2 ⟨okx, g2, hs2.le (by omega)⟩
        case a =>
          intro hb
          walk_at "st"
          refine ⟨s, _, 4, rfl, hs2, by omega, by omega, by omega, fun d H3 d0 d1 g3 hs3 => ?_⟩
          walk_at "st"
          refine ite_d (fun _ => ?_) (fun _ => ?_)
          · walk_at "st"
            have e3 := g3.kp p _ (by simpa using hps) e2
            have hpos : 0 < (xs.map V.str).length := by
              cases xs with
              | nil => simp at hb
              | cons a r => simp
            refine ⟨s, p, _, _, rfl, hs3, by omega, .of e3, hps, hpos, by rw [List.length_map]; omega, fun v H4 hv g4 hs4 => ?_⟩
            obtain ⟨z, hz, rfl⟩ := List.mem_map.mp hv
            walk_at "st"
            refine ⟨z, rfl, Nat.le_trans (ok z hz).hi (by decide), ?_⟩
            walk_at "st"
            intro p1 np1
            have hp1 : p1 ≠ s := fun z => hs4.al (by rw [← z]; exact np1)
            refine ⟨s, p1, _, [.str "a", .str "m", .str "z", .str "0", .str "9"], rfl, hs4.nx (S := []) (.new np1) (by simp), by omega, .of upd_same, hp1, by simp, by simp, fun v2 H5 hv2 g5 hs5 => ?_⟩
            have hy : ∃ w, v2 = .str w ∧ ∃ c ∈ sigC, w = ⟨#[c]⟩ := by
              simp only [List.mem_cons, List.not_mem_nil, or_false] at hv2
              rcases hv2 with rfl | rfl | rfl | rfl | rfl
              · exact ⟨_, rfl, 97, by decide, by decide +kernel⟩
              · exact ⟨_, rfl, 109, by decide, by decide +kernel⟩
              · exact ⟨_, rfl, 122, by decide, by decide +kernel⟩
              · exact ⟨_, rfl, 48, by decide, by decide +kernel⟩
              · exact ⟨_, rfl, 57, by decide, by decide +kernel⟩
            obtain ⟨w, rfl, hw⟩ := hy
            have okc := cut_name (ok z hz) hw
            refine ⟨_, w, rfl, rfl, ?_, ?_⟩
            · have h8 := okc.hi
              have : (cutS z none (some 7) ++ w).length = (cutS z none (some 7)).length + w.length := by rw [str_len, str_app, List.length_append, ← str_len, ← str_len]
              exact Nat.le_trans (show _ ≤ 8 by omega) (by decide)
            · walk_at "st"
              exact k _ H5 ⟨okc, g2.trans (g3.trans ((g4.newP np1).trans g5)), hs5.le (by omega)⟩
          · walk_at "st"
            exact k _ H3 ⟨okx, g2.trans g3, hs3.le (by omega)⟩
      case h2 =>
        intro one H3 hP
        obtain ⟨ok1, g3, hs3⟩ := hP
        have e3 := g3.kp p _ (by simpa using hps) e
        walk_at "st"
        refine ⟨fun μ σ H' => ∃ (a : Nat) (o1 : Str), σ = [some (V.ref s), some (.int m), some (.ref p), some (.int (0 + i)), some (.str o1), some (.int a)] ∧ H' = H3 ∧ NameOk o1 ∧ μ = xs.length + 2 - a ∧ (a = 0 ∨ o1 = cand i (a - 1)) ∧ (∀ j, j + 1 < a → cand i j ∈ xs) ∧ a ≤ xs.length + 1, ⟨_, 0, one, rfl, rfl, ok1, rfl, .inl rfl, fun j hj => absurd hj (by omega), by omega⟩, ?_⟩
        rintro μ σ H4 ⟨a, o1, rfl, rfl, ok2, rfl, hc, hb, ha⟩
        walk_at "st"
        refine ⟨p, _, rfl, .inl (.of e3), rfl, flat_strs xs, ?_⟩
        rw [if_neg (by decide), inV_str]
        walk_at "st"
        refine ite_d (fun hin => ?_) (fun hin => ?_)
        · have hall : ∀ j < a, cand i j ∈ xs := by
            intro j hj
            by_cases h : j + 1 < a
            · exact hb j h
            · rcases hc with rfl | rfl
              · omega
              · have : j = a - 1 := by omega
                rw [this]; exact hin
          have hfew := cand_few (k := i) (by omega) (n := a) (by omega) hall
          refine ⟨fun σ' H' => ∃ (o1 : Str), σ' = [some (V.ref s), some (.int m), some (.ref p), some (.int (0 + i)), some (.str o1), some (.int ((a + 1 : Nat) : Int))] ∧ H' = H4 ∧ o1 = cand i a, ?_, ?_⟩
          · rintro σ' H' ⟨o1, rfl, rfl, rfl⟩
            exact ⟨_, by omega, a + 1, _, rfl, rfl, cand_ok (by omega) (by omega), rfl, .inr rfl, fun j hj => hall j (by omega), by omega⟩
          · walk_at "st"
            have hm26 : (0 : Int) ≤ (a : Int) % 26 ∧ (a : Int) % 26 < 26 := by omega
            obtain ⟨h1, h2⟩ := let_at hm26.1 hm26.2
            refine ⟨letS, _, _, rfl, rfl, by decide +kernel, h1, ?_⟩
            walk_at "st"
            refine ⟨_, rfl, Nat.lt_of_le_of_lt (Nat.log2_le_self _) (by omega), ?_⟩
            have enum : (a : Int) / 26 + (0 + (i : Int)) = ((a / 26 + i : Nat) : Int) := by omega
            have emod : ((a : Int) % 26).toNat = a % 26 := by omega
            rw [enum, emod]
            have okc := cand_ok (k := i) (j := a) (by omega) (by omega)
            refine ⟨_, numS (a / 26 + i), rfl, rfl, ?_, ?_⟩
            · have hl8 := okc.hi
              have : (cand i a).length = (⟨#[letC.getD (a % 26) 0]⟩ : Str).length + (numS (a / 26 + i)).length := by
                unfold cand
                rw [str_len, str_app, List.length_append, ← str_len, ← str_len]
              exact Nat.le_trans (show _ ≤ 8 by omega) (by decide)
            · walk_at "st"
              exact ⟨_, by rw [show ((a + 1 : Nat) : Int) = (a : Int) + 1 by omega]; rfl, rfl, rfl⟩
        · walk_at "st"
          refine ⟨.inl ⟨rfl, _, .of e3⟩, ?_⟩
          walk_at "st"
          refine ⟨p, _, _, rfl, rfl, e3, ?_, ?_⟩
          · rw [List.length_map]; exact Nat.lt_of_lt_of_le (show xs.length < 100 by omega) (by decide)
          · walk_at "st"
            refine ⟨xs ++ [o1], _, _, _, rfl, by simp [hl], ?_, ?_, by rw [upd_same]; simp, ?_, ?_⟩
            · intro x hx
              rcases List.mem_append.mp hx with hx | hx
              · exact ok x hx
              · rw [List.mem_singleton.mp hx]; exact ok2
            · rw [List.nodup_append]
              refine ⟨nd, by simp, ?_⟩
              intro x hx y hy z
              rw [List.mem_singleton.mp hy] at z
              exact hin (by rw [← z]; exact hx)
            · have ga : Nx [p, s] H (upd H4 p (.lst (xs.map V.str ++ [V.str o1]))) := (((g.trans g3).sing (by simp))).putP (by simp)
              exact ga.drop np
            · exact (hs3.nx (S := [p]) (.put (by simp)) (by simpa using hps.symm)).le (by omega)
    · rintro σ H1 ⟨xs, y3, y4, y5, rfl, hl, ok, nd, e, g, hs1⟩
      walk_at "st"
      exact q p xs H1 np hl ok nd e g hs1


theorem ok_Lr_lengths {P : Program} {w : World} {K : PySem.W.Frag} {mg : Str → Option Value} {base : Heap} (T : Bn mg)
    (C_Ldraw : Df P w K mg base CX0 1 "_law_draw" ["spring", "many"] (sp_Ldraw K))
    (C_Lpick : Df P w K mg base CX0 2 "_law_pick" ["spring", "some"] (sp_Lpick K)) 
    {f : Addr} {fd : FuncData} (F : FunD K "_law_r_lengths" "_law_r_lengths" (defArgs s_Lr_lengths) (defBody s_Lr_lengths) (defScope s_Lr_lengths) [] [] f fd) :
    FnOk P w K mg base CX0 3 f fd ["spring", "hours", "many"] (sp_Lr_lengths K) := by
  refine F.ok sc_Lr_lengths (fun vs H Q E h => ?_) (fun cdv A outer s H vs Q E hr h => ?_)
  · obtain ⟨s, n, h, m, rfl, _⟩ := h
    rfl
  · obtain ⟨s, n, h, m, rfl, hs, hn, h1, h2, hm, q⟩ := h
    refine ⟨_, PSs.nox (pss_cons (ps_asg (pe_tup (pa_cons (pe_df C_Ldraw hr (pa_cons (pv 0) (pa_cons pe_int pa_nil))) (pa_cons (pe_callB (call_max2 rfl) (by rfl) T.max (by decide +kernel) (pa_cons pe_int (pa_cons (pe_op op_fdiv (pv 1) pe_int) pa_nil))) pa_nil))) (kgtup (n := 2) K rfl (pgs_cons (pg_name (i := 3) sc_Lr_lengths.nd rfl (Or.inl rfl)) (pgs_cons (pg_name (i := 4) sc_Lr_lengths.nd rfl (Or.inr rfl)) pgs_nil))))
    (pss_cons (ps_if (pt_cmpR op_eq (pv 3) pe_int (nomark _)) (pss_one (ps_ret (pe_lc (own := [("k", 6)]) (tt := tYes) rfl sc_Lr_lengths.nd (pi_range1 (by rfl) T.range (pa_cons (pv 2) pa_nil)) (blkOk_by (N := n_Lr_lengths) (sc := defScope s_Lr_lengths) (by decide +kernel)) (fun _ _ _ _ _ => (pg_name (i := 6) sc_Lr_lengths.nd rfl (Or.inl rfl))) (fun _ _ _ _ _ => pts_nil) (fun _ _ _ _ _ => (pe_op op_add pe_int (pe_df C_Ldraw hr (pa_cons (pv 0) (pa_cons (pv 4) pa_nil)))))))) pss_nil)
    (pss_cons (ps_if (pt_cmpR op_eq (pv 3) pe_int (nomark _)) (pss_one (ps_ret (pe_lc (own := [("k", 6)]) (tt := tYes) rfl sc_Lr_lengths.nd (pi_range1 (by rfl) T.range (pa_cons (pv 2) pa_nil)) (blkOk_by (N := n_Lr_lengths) (sc := defScope s_Lr_lengths) (by decide +kernel)) (fun _ _ _ _ _ => (pg_name (i := 6) sc_Lr_lengths.nd rfl (Or.inl rfl))) (fun _ _ _ _ _ => pts_nil) (fun _ _ _ _ _ => (pe_op op_add pe_int (pe_df C_Ldraw hr (pa_cons (pv 0) (pa_cons (pv 1) pa_nil)))))))) pss_nil)
    (pss_cons (ps_if (pt_cmpR op_eq (pv 3) pe_int (nomark _)) (pss_cons (ps_set (i := 5) sc_Lr_lengths.nd rfl (Or.inr rfl) (pe_op op_add pe_int (pe_df C_Ldraw hr (pa_cons (pv 0) (pa_cons (pv 1) pa_nil)))))
    (pss_one (ps_ret (pe_lc (own := [("k", 6)]) (tt := tYes) rfl sc_Lr_lengths.nd (pi_range1 (by rfl) T.range (pa_cons (pv 2) pa_nil)) (blkOk_by (N := n_Lr_lengths) (sc := defScope s_Lr_lengths) (by decide +kernel)) (fun _ _ _ _ _ => (pg_name (i := 6) sc_Lr_lengths.nd rfl (Or.inl rfl))) (fun _ _ _ _ _ => pts_nil) (fun _ _ _ _ _ => (pv 5)))))) pss_nil)
    (pss_cons (ps_if (pt_cmpR op_eq (pv 3) pe_int (nomark _)) (pss_one (ps_ret (pe_lc (own := [("k", 6)]) (tt := tYes) rfl sc_Lr_lengths.nd (pi_range1 (by rfl) T.range (pa_cons (pv 2) pa_nil)) (blkOk_by (N := n_Lr_lengths) (sc := defScope s_Lr_lengths) (by decide +kernel)) (fun _ _ _ _ _ => (pg_name (i := 6) sc_Lr_lengths.nd rfl (Or.inl rfl))) (fun _ _ _ _ _ => pts_nil) (fun _ _ _ _ _ => (pe_df C_Lpick hr (pa_cons (pv 0) (pa_cons (pe_lst (pa_cons (pv 1) (pa_cons pe_int (pa_cons (pe_op op_add pe_int (pe_df C_Ldraw hr (pa_cons (pv 0) (pa_cons (pv 4) pa_nil)))) pa_nil)))) pa_nil))))))) pss_nil)
    (pss_cons (ps_if (pt_cmpR op_eq (pv 3) pe_int (nomark _)) (pss_one (ps_ret (pe_lc (own := [("k", 6)]) (tt := tYes) rfl sc_Lr_lengths.nd (pi_range1 (by rfl) T.range (pa_cons (pv 2) pa_nil)) (blkOk_by (N := n_Lr_lengths) (sc := defScope s_Lr_lengths) (by decide +kernel)) (fun _ _ _ _ _ => (pg_name (i := 6) sc_Lr_lengths.nd rfl (Or.inl rfl))) (fun _ _ _ _ _ => pts_nil) (fun _ _ _ _ _ => (pe_op op_sub (pv 1) (pe_df C_Ldraw hr (pa_cons (pv 0) (pa_cons (pv 4) pa_nil)))))))) pss_nil)
    (pss_cons (ps_set (i := 5) sc_Lr_lengths.nd rfl (Or.inr rfl) (pe_op op_add pe_int (pe_df C_Ldraw hr (pa_cons (pv 0) (pa_cons (pe_callB (call_max2 rfl) (by rfl) T.max (by decide +kernel) (pa_cons pe_int (pa_cons (pe_op op_fdiv (pv 1) pe_int) pa_nil))) pa_nil)))))
    (pss_one (ps_ret (pe_lc (own := [("k", 6)]) (tt := tYes) rfl sc_Lr_lengths.nd (pi_range1 (by rfl) T.range (pa_cons (pv 2) pa_nil)) (blkOk_by (N := n_Lr_lengths) (sc := defScope s_Lr_lengths) (by decide +kernel)) (fun _ _ _ _ _ => (pg_name (i := 6) sc_Lr_lengths.nd rfl (Or.inl rfl))) (fun _ _ _ _ _ => pts_nil) (fun _ _ _ _ _ => (pe_callB (call_min2 rfl) (by rfl) T.min (by decide +kernel) (pa_cons (pv 1) (pa_cons (pe_op op_add (pv 5) (pe_df C_Ldraw hr (pa_cons (pv 0) (pa_cons pe_int pa_nil)))) pa_nil)))))))))))))), ?_⟩
    walk_at "go"
    refine ⟨s, n, 6, rfl, hs, by omega, by omega, by omega, fun d H1 d0 d1 g1 hs1 => ?_⟩
    walk_at "st"
    intro p0 np0
    have g2 : Nx [s] H (upd H1 p0 (.tup [.int d, .int (if h / 4 > 1 then h / 4 else 1)])) := g1.newP np0
    have hs2 : Spr (upd H1 p0 (.tup [.int d, .int (if h / 4 > 1 then h / 4 else 1)])) s (n + 1) := hs1.nx (S := []) (.new np0) (by simp)
    have t1 : 1 ≤ (if h / 4 > 1 then h / 4 else 1) := by split <;> omega
    have t2 : (if h / 4 > 1 then h / 4 else 1) ≤ h := by split <;> omega
    generalize (if h / 4 > 1 then h / 4 else 1) = top at t1 t2 g2 hs2 ⊢
    walk_at "st"
    generalize upd H1 p0 (.tup [.int d, .int top]) = H2 at g2 hs2 ⊢
    refine ite_d (fun e0 => ?_) (fun e0 => ?_)
    · walk_at "st"
      refine ⟨_, rfl, by omega, by omega, fun D nD => ?_⟩
      refine lc_ints 2 (fun y => 1 ≤ y ∧ y ≤ h) (fun _ => rfl) nD hs2 (by omega) (fun i H3 Q' hi g3 hs3 q' => ?_) (fun ys H' hl hr e g3 hs3 => q D ys H' (Nx.fresh g2 nD) (by omega) hr e (g2.trans g3) (hs3.le (by omega)))
      walk_at "st"
      refine ⟨s, _, top, rfl, hs3, by omega, by omega, by omega, fun y H4 y0 y1 g4 hs4 => ?_⟩
      walk_at "st"
      exact q' _ _ (by omega) g4 (hs4.le (by omega))
    walk_at "st"
    refine ite_d (fun e1 => ?_) (fun e1 => ?_)
    · walk_at "st"
      refine ⟨_, rfl, by omega, by omega, fun D nD => ?_⟩
      refine lc_ints 2 (fun y => 1 ≤ y ∧ y ≤ h) (fun _ => rfl) nD hs2 (by omega) (fun i H3 Q' hi g3 hs3 q' => ?_) (fun ys H' hl hr e g3 hs3 => q D ys H' (Nx.fresh g2 nD) (by omega) hr e (g2.trans g3) (hs3.le (by omega)))
      walk_at "st"
      refine ⟨s, _, h, rfl, hs3, by omega, by omega, by omega, fun y H4 y0 y1 g4 hs4 => ?_⟩
      walk_at "st"
      exact q' _ _ (by omega) g4 (hs4.le (by omega))
    walk_at "st"
    refine ite_d (fun e2 => ?_) (fun e2 => ?_)
    · walk_at "st"
      refine ⟨s, _, h, rfl, hs2, by omega, by omega, by omega, fun y H4 y0 y1 g4 hs4 => ?_⟩
      walk_at "st"
      refine ⟨_, rfl, by omega, by omega, fun D nD => ?_⟩
      refine lc_ints 2 (fun y => 1 ≤ y ∧ y ≤ h) (fun _ => rfl) nD hs4 (by omega) (fun i H3 Q' hi g3 hs3 q' => ?_) (fun ys H' hl hr e g3 hs3 => q D ys H' (Nx.fresh (g2.trans g4) nD) (by omega) hr e ((g2.trans g4).trans g3) (hs3.le (by omega)))
      walk_at "st"
      exact q' _ _ (by omega) (.refl _ _) (hs3.le (by omega))
    walk_at "st"
    refine ite_d (fun e3 => ?_) (fun e3 => ?_)
    · walk_at "st"
      refine ⟨_, rfl, by omega, by omega, fun D nD => ?_⟩
      refine lc_ints 2 (fun y => 1 ≤ y ∧ y ≤ h) (fun _ => rfl) nD hs2 (by omega) (fun i H3 Q' hi g3 hs3 q' => ?_) (fun ys H' hl hr e g3 hs3 => q D ys H' (Nx.fresh g2 nD) (by omega) hr e (g2.trans g3) (hs3.le (by omega)))
      walk_at "st"
      refine ⟨s, _, top, rfl, hs3, by omega, by omega, by omega, fun y H4 y0 y1 g4 hs4 => ?_⟩
      walk_at "st"
      intro p1 np1
      have hps : p1 ≠ s := fun z => hs4.al (by rw [← z]; exact np1)
      refine ⟨s, p1, _, [.int h, .int 1, .int (1 + y)], rfl, hs4.nx (S := []) (.new np1) (by simp), by omega, .of upd_same, hps, by simp, by simp, fun x H5 hx g5 hs5 => ?_⟩
      have hx' : ∃ z, x = .int z ∧ 1 ≤ z ∧ z ≤ h := by
        simp only [List.mem_cons, List.not_mem_nil, or_false] at hx
        rcases hx with rfl | rfl | rfl
        · exact ⟨h, rfl, by omega⟩
        · exact ⟨1, rfl, by omega⟩
        · exact ⟨1 + y, rfl, by omega⟩
      obtain ⟨z, rfl, hz⟩ := hx'
      exact q' _ _ hz ((g4.newP np1).trans g5) (hs5.le (by omega))
    walk_at "st"
    refine ite_d (fun e4 => ?_) (fun e4 => ?_)
    · walk_at "st"
      refine ⟨_, rfl, by omega, by omega, fun D nD => ?_⟩
      refine lc_ints 2 (fun y => 1 ≤ y ∧ y ≤ h) (fun _ => rfl) nD hs2 (by omega) (fun i H3 Q' hi g3 hs3 q' => ?_) (fun ys H' hl hr e g3 hs3 => q D ys H' (Nx.fresh g2 nD) (by omega) hr e (g2.trans g3) (hs3.le (by omega)))
      walk_at "st"
      refine ⟨s, _, top, rfl, hs3, by omega, by omega, by omega, fun y H4 y0 y1 g4 hs4 => ?_⟩
      walk_at "st"
      exact q' _ _ (by omega) g4 (hs4.le (by omega))
    walk_at "st"
    have t3 : 0 < (if h / 2 > 1 then h / 2 else 1) := by split <;> omega
    have t4 : (if h / 2 > 1 then h / 2 else 1) ≤ h := by split <;> omega
    refine ⟨s, _, _, rfl, hs2, by omega, t3, by omega, fun y H4 y0 y1 g4 hs4 => ?_⟩
    walk_at "st"
    refine ⟨_, rfl, by omega, by omega, fun D nD => ?_⟩
    refine lc_ints 2 (fun y => 1 ≤ y ∧ y ≤ h) (fun _ => rfl) nD hs4 (by omega) (fun i H3 Q' hi g3 hs3 q' => ?_) (fun ys H' hl hr e g3 hs3 => q D ys H' (Nx.fresh (g2.trans g4) nD) (by omega) hr e ((g2.trans g4).trans g3) (hs3.le (by omega)))
    walk_at "st"
    refine ⟨s, _, 3, rfl, hs3, by omega, by omega, by omega, fun z H5 z0 z1 g5 hs5 => ?_⟩
    walk_at "st"
    exact q' _ _ (by split <;> omega) g5 (hs5.le (by omega))


theorem ok_Lr_drawn {P : Program} {w : World} {K : PySem.W.Frag} {mg : Str → Option Value} {base : Heap} (T : Bn mg)
    (C_Lpick : Df P w K mg base CX0 2 "_law_pick" ["spring", "some"] (sp_Lpick K))
    (C_Lr_lengths : Df P w K mg base CX0 3 "_law_r_lengths" ["spring", "hours", "many"] (sp_Lr_lengths K))
    (C_Lw_names : Df P w K mg base CX0 4 "_law_w_names" ["spring", "many"] (sp_Lw_names K))
    (C_Ldraw : Df P w K mg base CX0 1 "_law_draw" ["spring", "many"] (sp_Ldraw K)) 
    {f : Addr} {fd : FuncData} (F : FunD K "_law_r_drawn" "_law_r_drawn" (defArgs s_Lr_drawn) (defBody s_Lr_drawn) (defScope s_Lr_drawn) [] [] f fd) :
    FnOk P w K mg base CX0 5 f fd ["spring", "many"] (sp_Lr_drawn K) := by
  refine F.ok sc_Lr_drawn (fun vs H Q E h => ?_) (fun cdv A outer s H vs Q E hr h => ?_)
  · obtain ⟨s, n, m, S, rfl, _⟩ := h
    rfl
  · obtain ⟨s, n, m, S, rfl, hs, hn, hm, hsS, al, q⟩ := h
    refine ⟨_, PSs.nox (pss_cons (ps_set (i := 2) sc_Lr_drawn.nd rfl (Or.inl rfl) (pe_df C_Lpick hr (pa_cons (pv 0) (pa_cons (pe_lst (pa_cons pe_int (pa_cons pe_int (pa_cons pe_int (pa_cons pe_int (pa_cons pe_int (pa_cons pe_int (pa_cons pe_int (pa_cons pe_int (pa_cons pe_int (pa_cons pe_int (pa_cons pe_int pa_nil)))))))))))) pa_nil))))
    (pss_cons (ps_parG2 (i1 := 3) (i2 := 4) rfl sc_Lr_drawn.nd rfl rfl (by decide) (Or.inl rfl) (Or.inl rfl) (pa_cons (pe_df C_Lw_names hr (pa_cons (pv 0) (pa_cons (pv 1) pa_nil))) (pa_cons (pe_df C_Lr_lengths hr (pa_cons (pv 0) (pa_cons (pv 2) (pa_cons (pv 1) pa_nil)))) pa_nil)) (by rfl))
    (pss_cons (ps_parG2 (i1 := 5) (i2 := 6) rfl sc_Lr_drawn.nd rfl rfl (by decide) (Or.inl rfl) (Or.inl rfl) (pa_cons (pe_df C_Lpick hr (pa_cons (pv 0) (pa_cons (pe_lst (pa_cons pe_int (pa_cons pe_int (pa_cons (pe_callB (call_max2 rfl) (by rfl) T.max (by decide +kernel) (pa_cons pe_int (pa_cons (pe_op op_fdiv (pv 2) pe_int) pa_nil))) pa_nil)))) pa_nil))) (pa_cons pe_dnewK pa_nil)) (by rfl))
    (pss_cons (ps_for PassesOwn.never rfl (ki_enum K (by rfl) T.enumerate (pa_cons (pv 3) pa_nil)) (kgtup (n := 2) K rfl (pgs_cons (pg_name (i := 7) sc_Lr_drawn.nd rfl (Or.inl rfl)) (pgs_cons (pg_name (i := 8) sc_Lr_drawn.nd rfl (Or.inl rfl)) pgs_nil)))
      (pss_one (ps_dput (hu_of hr) (pv 6) (pv 8) (pe_tup (pa_cons (pe_op op_mul (pe_op op_fdiv (pe_df C_Ldraw hr (pa_cons (pv 0) (pa_cons (pv 2) pa_nil))) (pv 5)) (pv 5)) (pa_cons (pe_ix (kx_list K) (pv 4) (pv 7) (fun _ _ => rfl)) pa_nil))) rfl)))
    (pss_one (ps_ret (pe_tup (pa_cons (pv 2) (pa_cons (pv 6) pa_nil))))))))), ?_⟩
    walk_at "go"
    intro p1 np1
    have hp1 : p1 ≠ s := fun z => hs.al (by rw [← z]; exact np1)
    refine ⟨s, p1, n, [.int 1, .int 2, .int 3, .int 4, .int 5, .int 7, .int 8, .int 12, .int 24, .int 60, .int 1000], rfl, hs.nx (S := []) (.new np1) (by simp), by omega, .of upd_same, hp1, by simp, by simp, fun v H1 hv g1 hs1 => ?_⟩
    have hv' : ∃ h : Int, v = .int h ∧ 1 ≤ h ∧ h ≤ 1000 := by
      simp only [List.mem_cons, List.not_mem_nil, or_false] at hv
      rcases hv with rfl | rfl | rfl | rfl | rfl | rfl | rfl | rfl | rfl | rfl | rfl <;> exact ⟨_, rfl, by decide, by decide⟩
    obtain ⟨h, rfl, h1, h2⟩ := hv'
    have g1' : Nx [s] H H1 := (Nx.new np1).trans g1
    walk_at "st"
    refine ⟨s, _, m, rfl, hs1, by omega, by omega, fun p xs H2 np hl okx nd ep g2 hs2 => ?_⟩
    have hps : p ≠ s := fun z => hs1.al (by rw [← z]; exact np)
    walk_at "st"
    refine ⟨s, _, h, m, rfl, hs2, by omega, h1, h2, by omega, fun p2 ys H3 np2 hl2 oky ep2 g3 hs3 => ?_⟩
    have hp2s : p2 ≠ s := fun z => hs2.al (by rw [← z]; exact np2)
    have ep3 := g3.kp p _ (by simpa using hps) ep
    walk_at "st"
    intro p4 np4
    have hp4 : p4 ≠ s := fun z => hs3.al (by rw [← z]; exact np4)
    refine ⟨s, p4, _, [.int 1, .int 1, .int (if h / 3 > 1 then h / 3 else 1)], rfl, hs3.nx (S := []) (.new np4) (by simp), by omega, .of upd_same, hp4, by simp, by simp, fun v H4 hv g4 hs4 => ?_⟩
    have hv' : ∃ t : Int, v = .int t ∧ 1 ≤ t ∧ t ≤ h := by
      simp only [List.mem_cons, List.not_mem_nil, or_false] at hv
      rcases hv with rfl | rfl | rfl
      · exact ⟨_, rfl, by decide, by omega⟩
      · exact ⟨_, rfl, by decide, by omega⟩
      · exact ⟨_, rfl, by split <;> omega, by split <;> omega⟩
    obtain ⟨t, rfl, t1, t2⟩ := hv'
    have g4' : Nx [s] H3 H4 := (Nx.new np4).trans g4
    have ep4 := g4'.kp p _ (by simpa using hps) ep3
    have ep24 := g4'.kp p2 _ (by simpa using hp2s) ep2
    have gA : Nx [s] H H4 := g1'.trans (g2.trans (g3.trans g4'))
    walk_at "st"
    intro fd nf
    have hfs : fd ≠ s := fun z => hs4.al (by rw [← z]; exact nf)
    have hfp : p ≠ fd := ne_of_none ep4 nf
    have hfp2 : p2 ≠ fd := ne_of_none ep24 nf
    have nfH : H fd = none := gA.fresh nf
    have hfS : fd ∉ S := al.ne nfH
    walk_at "st"
    refine ⟨p, _, rfl, .of (by rw [upd_ne hfp]; exact ep4), ?_⟩
    refine for_runs (runs_enum (xs := xs.map V.str)) (fun i σ H' => ∃ (A : Arcs) (kvs : List (Key × V)) (y7 y8 : Option V), σ = [some (V.ref s), some (.int m), some (.int h), some (.ref p), some (.ref p2), some (.int t), some (.ref fd), y7, y8] ∧
      A.map (·.1) = xs.take i ∧ (∀ a ∈ A, 0 ≤ a.2.1 ∧ a.2.1 < h) ∧ (∀ a ∈ A, 1 ≤ a.2.2 ∧ a.2.2 ≤ h) ∧ H' fd = some (.dK kvs) ∧ ImKv (fd :: S) H' kvs (kvsD A) ∧ H' p = some (.lst (xs.map V.str)) ∧ H' p2 = some (.lst (ys.map V.int)) ∧ Nx [fd, s] H4 H' ∧ Spr H' s (n + m * 14 + 4 + i)) ?_ ?_ ?_ ?_
    · exact ⟨[], [], _, _, rfl, rfl, by simp, by simp, upd_same, .nil, by rw [upd_ne hfp]; exact ep4, by rw [upd_ne hfp2]; exact ep24, .put (by simp), (hs4.nx (S := [fd]) (.put (by simp)) (by simpa using hfs.symm)).le (by omega)⟩
    · rintro i σ H' ⟨A, kvs, y7, y8, _, _, _, _, _, _, e, _⟩
      exact .of e
    · rintro i σ H5 _ _ hi ⟨A, kvs, y7, y8, rfl, hA, hst, hln, ef, hI, e1, e2, g5, hs5⟩ ⟨T1, x1, rfl, nT, rfl, ex⟩
      rw [List.length_map] at hi
      have ex1 : x1 = .str xs[i] := by
        rw [List.getElem?_map, List.getElem?_eq_getElem hi] at ex
        exact (Option.some.inj ex).symm
      subst ex1
      have hT1 : T1 ≠ s := fun z => hs5.al (by rw [← z]; exact nT)
      have g6 : Nx [fd, s] H5 (upd H5 T1 (.tup [.int i, .str xs[i]])) := .new nT
      have hs6 := hs5.nx (S := []) (Nx.new (o := .tup [.int i, .str xs[i]]) nT) (by simp)
      have ef6 : (upd H5 T1 (.tup [.int i, .str xs[i]])) fd = some (.dK kvs) := by rw [upd_ne (ne_of_none ef nT)]; exact ef
      walk_at "st"
      generalize upd H5 T1 (.tup [.int i, .str xs[i]]) = H6 at g6 hs6 ef6 ⊢
      refine ⟨s, _, h, rfl, hs6, by omega, h1, by omega, fun d H7 d0 d1 g7 hs7 => ?_⟩
      obtain ⟨b0, b1, b2, b3⟩ := step_mul d0 t1
      have g7' : Nx [fd, s] H4 H7 := g5.trans (g6.trans (g7.sing (by simp)))
      have g57 : Nx [fd, s] H5 H7 := g6.trans (g7.sing (by simp))
      walk_at "st"
      have hi2 : i < ys.length := by omega
      have e27 := g57.kp p2 _ (by simp [hfp2, hp2s]) e2
      have e17 := g57.kp p _ (by simp [hfp, hps]) e1
      have ef7 : H7 fd = some (.dK kvs) := g7.kp fd _ (by simpa using hfs) ef6
      refine s_ixl (.of e27) (atI_at (j := i) (v := .int ys[i]) (by rw [List.getElem?_map, List.getElem?_eq_getElem hi2]; rfl) rfl) ?_
      walk_at "st"
      intro T2 nT2
      have hT2f : fd ≠ T2 := ne_of_none ef7 nT2
      have hT2s : T2 ≠ s := fun z => hs7.al (by rw [← z]; exact nT2)
      have hlen : kvs.length = i := by
        have := hI.length
        have h2 := congrArg List.length hA
        rw [List.length_map, List.length_take] at h2
        rw [this]
        unfold kvsD
        rw [List.length_map]; omega
      have hnew : (Sum.inr xs[i] : Key) ∉ kvs.map (·.1) := by
        rw [kvs_keys hI, hA]
        intro z
        obtain ⟨w, hw, ew⟩ := List.mem_map.mp z
        have e' : w = xs[i] := by injection ew
        subst e'
        obtain ⟨j, hj, ej⟩ := List.mem_take_iff_getElem.mp hw
        have := (List.getElem_inj nd).mp ej
        omega
      have ef8 : (upd H7 T2 (.tup [.int (d / t * t), .int ys[i]])) fd = some (.dK kvs) := by rw [upd_ne hT2f]; exact ef7
      walk_at "st"
      refine ⟨fd, _, rfl, .k (k := .inr xs[i]) ef8 (Nat.lt_of_lt_of_le (show kvs.length < 100 by omega) (by decide)), ?_⟩
      rw [putK_new hnew]
      have al7 : Al (fd :: S) H7 := by
        intro z hz
        rcases List.mem_cons.mp hz with e | hz
        · rw [e, ef7]; simp
        · exact ((gA.sing hsS).of0' al) hz |> fun h => g7'.th z h
      have g8 : Nx (fd :: S) H7 (upd (upd H7 T2 (.tup [.int (d / t * t), .int ys[i]])) fd (.dK (kvs ++ [(.inr xs[i], .ref T2)]))) := (Nx.new nT2).putP (by simp)
      have hI8 := (hI.nx (g57.mono (by intro z hz; simp at hz; rcases hz with rfl | rfl <;> simp [hsS]))).nx g8
      refine ⟨A ++ [(xs[i], d / t * t, ys[i])], _, _, _, rfl, ?_, ?_, ?_, upd_same, ?_, ?_, ?_, ?_, ?_⟩
      · rw [List.map_append, hA]; exact (List.take_append_getElem hi)
      · intro a ha
        rcases List.mem_append.mp ha with ha | ha
        · exact hst a ha
        · rw [List.mem_singleton.mp ha]; exact ⟨b0, by show d / t * t < h; omega⟩
      · intro a ha
        rcases List.mem_append.mp ha with ha | ha
        · exact hln a ha
        · rw [List.mem_singleton.mp ha]; exact oky _ (List.getElem_mem hi2)
      · unfold kvsD
        rw [List.map_append]
        refine ImKv.snoc (k := .inr xs[i]) hI8 (Im.pair (al7.ne nT2) ?_)
        rw [upd_ne (Ne.symm hT2f), upd_same]
      · rw [upd_ne hfp, upd_ne (ne_of_none e17 nT2)]; exact e17
      · rw [upd_ne hfp2, upd_ne (ne_of_none e27 nT2)]; exact e27
      · exact g7'.trans ((Nx.new nT2).putP (by simp))
      · exact ((hs7.nx (S := []) (.new nT2) (by simp)).nx (S := [fd]) (.put (by simp)) (by simpa using hfs.symm)).le (by omega)
    · rintro σ H5 ⟨A, kvs, y7, y8, rfl, hA, hst, hln, ef, hI, e1, e2, g5, hs5⟩
      rw [List.length_map, List.take_length] at hA
      walk_at "st"
      intro r nr
      have hH5 : H5 r = none := nr
      have g9 : Nx [s] H H5 := ((gA.sing (S := [fd, s]) (by simp)).trans g5).drop nfH
      have ok : ArcsOk h A := ⟨fun a ha => okx _ (by rw [← hA]; exact List.mem_map.mpr ⟨a, ha, rfl⟩), by rw [hA]; exact nd, hst, hln⟩
      have im5 : Im S H5 (.ref fd) (arcsD A) := .dct hfS (.inl ef) (by rw [kvs_keys hI]; exact inr_nodup ok.nd) hI.tail
      refine q r fd h A _ (g9.fresh nr) upd_same h1 h2 nfH (im5.nx (.new nr)) ok ?_ (g9.newP nr) ((hs5.nx (S := []) (.new nr) (by simp)).le ?_)
      · have := congrArg List.length hA
        rw [List.length_map] at this
        omega
      · rw [List.length_map]; omega

theorem leaf_eq {H : Hp} {v w : V} {d : PyData} (hv : Im [] H v d) (hw : Im [] H w d) (h1 : isDictD d = false) (h2 : isListD d = false) (h3 : isTupD d = false) : v = w := by
  cases hv <;> cases hw <;> first | (cases h1; done) | (cases h2; done) | (cases h3; done) | rfl
theorem ok_Lsame {P : Program} {w : World} {K : PySem.W.Frag} {mg : Str → Option Value} {base : Heap} (T : Bn mg)
    {j n : Nat} (hj : 0 ≤ j) (C_Lsame : Df P w K mg base CX0 j "_law_same" ["found", "due"] (sp_LsameN K n)) 
    {f : Addr} {fd : FuncData} (F : FunD K "_law_same" "_law_same" (defArgs s_Lsame) (defBody s_Lsame) (defScope s_Lsame) [] [] f fd) :
    FnOk P w K mg base CX0 (j + 1) f fd ["found", "due"] (sp_LsameN K (n + 1)) := by
  refine F.ok sc_Lsame (fun vs H Q E h => ?_) (fun cdv A outer s H vs Q E hr h => ?_)
  · obtain ⟨v, w, d, rfl, _⟩ := h
    rfl
  · obtain ⟨v, w', d, rfl, hv, hw, hd, hsm, q⟩ := h
    refine ⟨_, PSs.nox (pss_cons (ps_if (pt_val (pe_callB kisD (by rfl) T.isinstance (by decide +kernel) (pa_cons (pv 1) (pa_cons (pe_tyn "dict" T.dict) pa_nil)))) (pss_one (ps_ret (pe_and (pe_callB kisD (by rfl) T.isinstance (by decide +kernel) (pa_cons (pv 0) (pa_cons (pe_tyn "dict" T.dict) pa_nil))) (pe_one (pe_df C_Lsame hr (pa_cons (pe_litems rfl (pv 0) (by rfl) T.list) (pa_cons (pe_litems rfl (pv 1) (by rfl) T.list) pa_nil))))))) pss_nil)
    (pss_cons (ps_if (pt_val (pe_callB kisDT (by rfl) T.isinstance (by decide +kernel) (pa_cons (pv 1) (pa_cons (pe_tup (pa_cons (pe_tyn "list" T.list) (pa_cons (pe_tyn "tuple" T.tuple) pa_nil))) pa_nil)))) (pss_cons (ps_if (PW.pt (pw_or (pt_cmpR op_ne (pe_callB kisD (by rfl) T.isinstance (by decide +kernel) (pa_cons (pv 0) (pa_cons (pe_tyn "list" T.list) pa_nil))) (pe_callB kisD (by rfl) T.isinstance (by decide +kernel) (pa_cons (pv 1) (pa_cons (pe_tyn "list" T.list) pa_nil))) (nomark _)) (pw_or1 (pt_cmpR op_ne (pe_callB kisD (by rfl) T.isinstance (by decide +kernel) (pa_cons (pv 0) (pa_cons (pe_tyn "tuple" T.tuple) pa_nil))) (pe_callB kisD (by rfl) T.isinstance (by decide +kernel) (pa_cons (pv 1) (pa_cons (pe_tyn "tuple" T.tuple) pa_nil))) (nomark _))))) (pss_one (ps_ret pe_bl)) pss_nil)
    (pss_one (ps_ret (pe_and (pe_cmpR op_eq (pe_callB (klen K) (by rfl) T.len (by decide +kernel) (pa_cons (pv 0) pa_nil)) (pe_callB (klen K) (by rfl) T.len (by decide +kernel) (pa_cons (pv 1) pa_nil)) (nomark _)) (pe_one (pe_callB (kall K) (by rfl) T.all (by decide +kernel) (pa_cons (pe_lc (own := [("one", 3), ("other", 4)]) (tt := tYes) rfl sc_Lsame.nd (ki_zipA K (by rfl) T.zip (pa_cons (pv 0) (pa_cons (pv 1) pa_nil))) (blkOk_by (N := n_Lsame) (sc := defScope s_Lsame) (by decide +kernel)) (fun _ _ _ _ _ => (kgtup (n := 2) K rfl (pgs_cons (pg_name (i := 3) sc_Lsame.nd rfl (Or.inl rfl)) (pgs_cons (pg_name (i := 4) sc_Lsame.nd rfl (Or.inl rfl)) pgs_nil)))) (fun _ _ _ _ _ => pts_nil) (fun _ _ _ _ _ => (pe_df C_Lsame hr (pa_cons (pv 3) (pa_cons (pv 4) pa_nil))))) pa_nil))))))) pss_nil)
    (pss_cons (ps_set (i := 2) sc_Lsame.nd rfl (Or.inl rfl) (pe_and (pe_cmpR op_eq (pe_callB kisD (by rfl) T.isinstance (by decide +kernel) (pa_cons (pv 0) (pa_cons (pe_tyn "bool" T.bool) pa_nil))) (pe_callB kisD (by rfl) T.isinstance (by decide +kernel) (pa_cons (pv 1) (pa_cons (pe_tyn "bool" T.bool) pa_nil))) (nomark _)) (pe_one (pe_cmpR op_eq (pe_callB kisD (by rfl) T.isinstance (by decide +kernel) (pa_cons (pv 0) (pa_cons (pe_tyn "int" T.int) pa_nil))) (pe_callB kisD (by rfl) T.isinstance (by decide +kernel) (pa_cons (pv 1) (pa_cons (pe_tyn "int" T.int) pa_nil))) (nomark _)))))
    (pss_cons (ps_if (PW.pt (pw_or (pt_val (pe_callB kisDT (by rfl) T.isinstance (by decide +kernel) (pa_cons (pv 0) (pa_cons (pe_tup (pa_cons (pe_tyn "dict" T.dict) (pa_cons (pe_tyn "list" T.list) (pa_cons (pe_tyn "tuple" T.tuple) pa_nil)))) pa_nil)))) (pw_or (pt_not (kt_truth K (pv 2) (by intro _; rfl))) (pw_or1 (pt_cmpR op_ne (pe_callB kisD (by rfl) T.isinstance (by decide +kernel) (pa_cons (pv 0) (pa_cons (pe_tyn "str" T.str) pa_nil))) (pe_callB kisD (by rfl) T.isinstance (by decide +kernel) (pa_cons (pv 1) (pa_cons (pe_tyn "str" T.str) pa_nil))) (nomark _)))))) (pss_one (ps_ret pe_bl)) pss_nil)
    (pss_one (ps_ret (pe_ifExp (pt_cmpR op_isN (pv 1) pe_non (nomark _)) (pe_cmpR op_isN (pv 0) pe_non (nomark _)) (pe_cmpR op_eq (pv 0) (pv 1) (nomark _))))))))), ?_⟩
    walk_at "go"
    refine ite_b (fun hD => ?_) (fun hD => ?_)
    · -- dicts
      walk_at "st"
      rw [hD]
      refine iteT ?_
      walk_at "st"
      cases d with
      | dict ds =>
        cases hv with
        | @dct a kvs _ na ra nda ia =>
        cases hw with
        | @dct b kvs2 _ nb rb ndb ib =>
        refine ⟨a, kvs, rfl, ra, fun H1 l1 as1 g1 n1 na1 nl1 e1 p1 => ?_⟩
        walk_at "st"
        have g1' : Nx [] H H1 := .ofSame g1
        have rb1 : Rd H1 b (.dK kvs2) := g1'.rx b _ (by simp) .d rb
        refine ⟨b, kvs2, rfl, rb1, fun H2 l2 as2 g2 n2 na2 nl2 e2 p2 => ?_⟩
        walk_at "st"
        have g2' : Nx [] H1 H2 := .ofSame g2
        have j1 : Im [] H2 (.ref l1) (itemsD ds) := .lst (by simp) (.inl (g2 _ _ e1)) ((ImAll.items (T := []) g1 (by simp) ia p1 (by simp)).nx g2')
        have j2 : Im [] H2 (.ref l2) (itemsD ds) := .lst (by simp) (.inl e2) (ImAll.items (T := []) g2 (by simp) (ib.nx g1') p2 (by simp))
        have hdi : dep (itemsD ds) < n := by
          have := dep_items ds
          rw [dep] at hd
          unfold itemsD
          rw [dep]
          omega
        have hsi : sm (itemsD ds) = true := by
          rw [sm, Bool.and_eq_true] at hsm
          unfold itemsD
          rw [sm, sm_items ds hsm.2, List.length_map, hsm.1]
          rfl
        exact ⟨_, _, _, rfl, j1, j2, hdi, hsi, fun H3 g3 => q H3 (g1'.trans (g2'.trans g3))⟩
      | _ => cases hD
    · walk_at "st"
      intro t1 nt1
      have hw1 := hw.nx (S := []) (.new (o := .tup [.ty "list", .ty "tuple"]) nt1)
      have hv1 := hv.nx (S := []) (.new (o := .tup [.ty "list", .ty "tuple"]) nt1)
      walk_at "st"
      refine s_isLT hw ?_ nt1
      have gt1 : Nx [] H (upd H t1 (.tup [.ty "list", .ty "tuple"])) := .new nt1
      generalize upd H t1 (.tup [.ty "list", .ty "tuple"]) = H1 at hw1 hv1 gt1 ⊢
      walk_at "st"
      refine ite_b (fun hL => ?_) (fun hL => ?_)
      · walk_at "st"
        cases d with
        | list ds =>
          cases hv1 with
          | @lst a xs _ na ra ia =>
          cases hw1 with
          | @lst b ys _ nb rb ib =>
          refine ⟨_, _, rfl, .inl (len_l (.inl ra)), ?_⟩
          walk_at "st"
          refine ⟨_, _, rfl, .inl (len_l (.inl rb)), ?_⟩
          have hlen : xs.length = ys.length := by rw [ia.length, ib.length]
          rw [hlen]
          walk_at "st"
          refine ⟨a, b, xs, ys, rfl, .inl ⟨.inl ra, .inl rb, ?_⟩⟩
          intro D nD
          have hlen1000 : xs.length ≤ 1000 := by
            rw [sm, Bool.and_eq_true] at hsm
            rw [ia.length]
            exact of_decide_eq_true hsm.1
          have hdl : depAll ds + 1 < n + 1 := by rw [dep] at hd; exact hd
          have hsl : smAll ds = true := by rw [sm, Bool.and_eq_true] at hsm; exact hsm.2
          refine lc_runs (runs_zip (K := K) hlen) (fun i H' => H' D = some (.lst (List.replicate i (V.bl true))) ∧ Nx [] H1 H') ⟨upd_same, .new nD⟩ (fun i H' p => ⟨.inl (p.2.rx a _ (by simp) .l ra), .inl (p.2.rx b _ (by simp) .l rb)⟩) ?_ ?_
          · rintro i H2 _ _ hi ⟨eD, g2⟩ ⟨T1, x, y, rfl, nT, rfl, ex, ey⟩
            walk_at "st"
            refine ⟨rfl, ?_⟩
            walk_at "st"
            obtain ⟨dx, ed, jx⟩ := ia.at_ ex
            obtain ⟨dy, ed2, jy⟩ := ib.at_ ey
            rw [ed] at ed2
            cases ed2
            have hmem : dx ∈ ds := List.mem_of_getElem? ed
            have gT : Nx [] H1 (upd H2 T1 (.tup [x, y])) := g2.newP nT
            refine ⟨x, y, dx, rfl, jx.nx gT, jy.nx gT, Nat.lt_of_le_of_lt (depAll_mem hmem) (by omega), smAll_mem hsl hmem, fun H3 g3 => ?_⟩
            refine ⟨_, g3.kp D _ (by simp) (by rw [upd_ne (ne_of_none eD nT)]; exact eD), ?_, ?_, ?_⟩
            · rw [List.length_replicate]; exact Nat.lt_of_lt_of_le (show i < 10000 by omega) (by decide)
            · rw [upd_same, ← List.replicate_succ']
            · have ga : Nx [D] H1 (upd H3 D (.lst (List.replicate i (V.bl true) ++ [V.bl true]))) := ((gT.trans g3).of0).putP (by simp)
              exact ga.drop nD
          · rintro H2 ⟨eD, g2⟩
            walk_at "st"
            refine ⟨D, List.replicate xs.length true, rfl, .of (by rw [eD, List.map_replicate]), ?_⟩
            rw [show (List.replicate xs.length true).all id = true by rw [List.all_eq_true]; intro z hz; exact List.eq_of_mem_replicate hz]
            exact q H2 (gt1.trans g2)
        | tuple ds =>
          cases hv1 with
          | @tup a xs _ na ra ia =>
          cases hw1 with
          | @tup b ys _ nb rb ib =>
          refine ⟨_, _, rfl, .inl (.inr ⟨_, .inl ra, rfl⟩), ?_⟩
          walk_at "st"
          refine ⟨_, _, rfl, .inl (.inr ⟨_, .inl rb, rfl⟩), ?_⟩
          have hlen : xs.length = ys.length := by rw [ia.length, ib.length]
          rw [hlen]
          walk_at "st"
          refine ⟨a, b, xs, ys, rfl, .inr ⟨.inl ra, .inl rb, ?_⟩⟩
          intro D nD
          have hlen1000 : xs.length ≤ 1000 := by
            rw [sm, Bool.and_eq_true] at hsm
            rw [ia.length]
            exact of_decide_eq_true hsm.1
          have hdl : depAll ds + 1 < n + 1 := by rw [dep] at hd; exact hd
          have hsl : smAll ds = true := by rw [sm, Bool.and_eq_true] at hsm; exact hsm.2
          refine lc_runs (runs_zipT (K := K) hlen) (fun i H' => H' D = some (.lst (List.replicate i (V.bl true))) ∧ Nx [] H1 H') ⟨upd_same, .new nD⟩ (fun i H' p => ⟨.inl (p.2.rx a _ (by simp) .t ra), .inl (p.2.rx b _ (by simp) .t rb)⟩) ?_ ?_
          · rintro i H2 _ _ hi ⟨eD, g2⟩ ⟨T1, x, y, rfl, nT, rfl, ex, ey⟩
            walk_at "st"
            refine ⟨rfl, ?_⟩
            walk_at "st"
            obtain ⟨dx, ed, jx⟩ := ia.at_ ex
            obtain ⟨dy, ed2, jy⟩ := ib.at_ ey
            rw [ed] at ed2
            cases ed2
            have hmem : dx ∈ ds := List.mem_of_getElem? ed
            have gT : Nx [] H1 (upd H2 T1 (.tup [x, y])) := g2.newP nT
            refine ⟨x, y, dx, rfl, jx.nx gT, jy.nx gT, Nat.lt_of_le_of_lt (depAll_mem hmem) (by omega), smAll_mem hsl hmem, fun H3 g3 => ?_⟩
            refine ⟨_, g3.kp D _ (by simp) (by rw [upd_ne (ne_of_none eD nT)]; exact eD), ?_, ?_, ?_⟩
            · rw [List.length_replicate]; exact Nat.lt_of_lt_of_le (show i < 10000 by omega) (by decide)
            · rw [upd_same, ← List.replicate_succ']
            · have ga : Nx [D] H1 (upd H3 D (.lst (List.replicate i (V.bl true) ++ [V.bl true]))) := ((gT.trans g3).of0).putP (by simp)
              exact ga.drop nD
          · rintro H2 ⟨eD, g2⟩
            walk_at "st"
            refine ⟨D, List.replicate xs.length true, rfl, .of (by rw [eD, List.map_replicate]), ?_⟩
            rw [show (List.replicate xs.length true).all id = true by rw [List.all_eq_true]; intro z hz; exact List.eq_of_mem_replicate hz]
            exact q H2 (gt1.trans g2)
        | _ => cases hL
      · walk_at "st"
        intro t2 nt2
        walk_at "st"
        refine s_isDLT hv1 ?_ nt2
        have hw2 := hw1.nx (S := []) (.new (o := .tup [.ty "dict", .ty "list", .ty "tuple"]) nt2)
        have hv2 := hv1.nx (S := []) (.new (o := .tup [.ty "dict", .ty "list", .ty "tuple"]) nt2)
        have gt2 : Nx [] H1 (upd H1 t2 (.tup [.ty "dict", .ty "list", .ty "tuple"])) := .new nt2
        generalize upd H1 t2 (.tup [.ty "dict", .ty "list", .ty "tuple"]) = H2 at hw2 hv2 gt2 ⊢
        rw [hD, hL, Bool.or_false]
        walk_at "st"
        refine ⟨true, .inl (show true = _ by simp), ?_⟩
        walk_at "st"
        have hLT := Bool.or_eq_false_iff.mp hL
        have e := leaf_eq hv hw hD hLT.1 hLT.2
        subst e
        refine ⟨rfl, ?_⟩
        walk_at "st"
        refine ite_d (fun hn => ?_) (fun hn => ?_)
        · walk_at "st"
          refine ⟨rfl, ?_⟩
          rw [decide_eq_true hn]
          exact q H2 (gt1.trans gt2)
        · walk_at "st"
          have hs : scal v v = true := by
            cases hv with
            | non => exact absurd rfl hn
            | bl b => rfl
            | int i => rfl
            | str x => rfl
            | lst => cases hLT.1
            | tup => cases hLT.2
            | dct => cases hD
          refine s_eq hs ?_
          rw [decide_eq_true rfl]
          exact q H2 (gt1.trans gt2)


theorem ok_Lloose {P : Program} {w : World} {K : PySem.W.Frag} {mg : Str → Option Value} {base : Heap} (T : Bn mg)
    (C_Lmixed : Df P w K mg base CX0 2 "_law_mixed" ["spring", "some"] (sp_Lmixed K))
    (C_Ldraw : Df P w K mg base CX0 1 "_law_draw" ["spring", "many"] (sp_Ldraw K))
    {j n : Nat} (hj : 3 ≤ j) (C_Lloose : Df P w K mg base CX0 j "_law_loose" ["spring", "thing"] (sp_LlooseN K n)) 
    {f : Addr} {fd : FuncData} (F : FunD K "_law_loose" "_law_loose" (defArgs s_Lloose) (defBody s_Lloose) (defScope s_Lloose) [] [] f fd) :
    FnOk P w K mg base CX0 (j + 1) f fd ["spring", "thing"] (sp_LlooseN K (n + 1)) := by
  refine F.ok sc_Lloose (fun vs H Q E h => ?_) (fun cdv A outer s H vs Q E hr h => ?_)
  · obtain ⟨s, v, d, S, m, rfl, _⟩ := h
    rfl
  · obtain ⟨s, v, d, S, m, rfl, hsS, hal, hv, hsp, hm, hd, hsm, q⟩ := h
    refine ⟨_, PSs.nox (pss_cons (ps_if (pt_val (pe_callB kisD (by rfl) T.isinstance (by decide +kernel) (pa_cons (pv 1) (pa_cons (pe_tyn "dict" T.dict) pa_nil)))) (pss_one (ps_ret (pe_callTy (kdictP K) (by rfl) T.dict (by decide +kernel) (pa_cons (pe_lc (own := [("key", 4)]) (tt := tYes) rfl sc_Lloose.nd (ki_list K (pe_df C_Lmixed hr (pa_cons (pv 0) (pa_cons (pe_callTy klistD (by rfl) T.list (by decide +kernel) (pa_cons (pv 1) pa_nil)) pa_nil)))) (blkOk_by (N := n_Lloose) (sc := defScope s_Lloose) (by decide +kernel)) (fun _ _ _ _ _ => (pg_name (i := 4) sc_Lloose.nd rfl (Or.inl rfl))) (fun _ _ _ _ _ => pts_nil) (fun _ _ _ _ _ => (pe_tup (pa_cons (pv 4) (pa_cons (pe_df C_Lloose hr (pa_cons (pv 0) (pa_cons (pe_dget (hu_of hr) (pv 1) (pv 4) (fun _ _ => rfl)) pa_nil))) pa_nil))))) pa_nil)))) pss_nil)
    (pss_cons (ps_if (pt_not (pt_val (pe_callB kisDT (by rfl) T.isinstance (by decide +kernel) (pa_cons (pv 1) (pa_cons (pe_tup (pa_cons (pe_tyn "list" T.list) (pa_cons (pe_tyn "tuple" T.tuple) pa_nil))) pa_nil))))) (pss_one (ps_ret (pv 1))) pss_nil)
    (pss_cons (ps_setLc (i := 2) (own := [("part", 3)]) (tt := tYes) rfl sc_Lloose.nd rfl rfl (sw_true rfl rfl rfl (by decide +kernel)) (ki_seq K (pv 1)) (blkOk_by (N := n_Lloose) (sc := defScope s_Lloose) (by decide +kernel)) (fun _ _ _ _ _ => (pg_name (i := 3) sc_Lloose.nd rfl (Or.inl rfl))) (fun _ _ _ _ _ => pts_nil) (fun _ _ _ _ _ => (pe_df C_Lloose hr (pa_cons (pv 0) (pa_cons (pv 3) pa_nil)))))
    (pss_one (ps_ret (pe_ifExp (pt_cmpR op_gt (pe_df C_Ldraw hr (pa_cons (pv 0) (pa_cons pe_int pa_nil))) pe_int (nomark _)) (pv 2) (pe_callTy (ktuple_of K) (by rfl) T.tuple (by decide +kernel) (pa_cons (pv 2) pa_nil)))))))), ?_⟩
    walk_at "go"
    refine ite_b (fun hD => ?_) (fun hD => ?_)
    · -- dicts
      walk_at "st"
      cases d with
      | dict ds =>
        cases hv with
        | @dct a kvs _ na ra nda ia =>
        rw [wt] at hm q
        rw [dep] at hd
        rw [sm, Bool.and_eq_true] at hsm
        have hl1 : ds.length ≤ 1000 := of_decide_eq_true hsm.1
        have hlk := ia.length
        refine ⟨a, kvs, rfl, ra, fun l nl => ?_⟩
        walk_at "st"
        have hls : l ≠ s := fun z => hsp.al (by rw [← z]; exact nl)
        have g0 : Nx [] H (upd H l (.lst (kvs.map fun kv => kV kv.1))) := .new nl
        refine ⟨s, l, m, _, rfl, hsp.nx g0 (by simp), by omega, .of upd_same, hls, by rw [List.length_map]; omega, fun p ys H1 np hp ep g1 hs1 => ?_⟩
        rw [List.length_map] at hs1
        obtain ⟨zs, pz, rfl⟩ := perm_of_map hp
        obtain ⟨ds2, pd, iz⟩ := ImKv.perm pz ia
        have lz : zs.length = ds2.length := iz.length
        have ld : ds2.length = ds.length := pd.length_eq
        have ndz : (zs.map (·.1)).Nodup := (pz.map _).nodup_iff.mpr nda
        have np0 : H p = none := g0.fresh np
        have hps : p ≠ s := fun z => hsp.al (by rw [← z]; exact np0)
        have gA : Nx [s] H H1 := g0.of0.trans g1
        walk_at "st"
        refine ⟨p, rfl, ⟨_, .of ep⟩, fun D nD => ?_⟩
        have nD0 : H D = none := gA.fresh nD
        have hDp : p ≠ D := fun z => by rw [← z, ep] at nD; cases nD
        have hDs : s ≠ D := fun z => hsp.al (by rw [z]; exact nD0)
        have halD : Al S H1 := hal.mono gA
        refine lc_runs (runs_list (K := K) (xs := zs.map fun kv => kV kv.1)) (fun i H' => ∃ acc es, H' D = some (.lst acc) ∧ acc.length = i ∧ ImAll (D :: S) H' acc (es.map fun p => PyData.tuple [p.1, p.2]) ∧ LoKv (ds2.take i) es ∧ Nx [D, s] H1 H' ∧ Spr H' s (m + ds.length + wtKv (ds2.take i))) ?_ (fun i H' => fun ⟨acc, es, eD, hl, im, hlo, g, hs⟩ => .inl (g.rx p _ (by simp [hps, hDp]) .l (.inl ep))) ?_ ?_
        · exact ⟨[], [], upd_same, rfl, .nil, .nil, .new nD, by rw [show (List.take 0 ds2) = [] from rfl, wtKv]; exact (hs1.nx (S := []) (.new nD) (by simp)).le (by omega)⟩
        · rintro i Hx x H2 hi ⟨acc, es, eD, hl, im, hlo, g2, hs2⟩ ⟨e, ex⟩
          subst e
          rw [List.length_map] at hi
          walk_at "st"
          refine ⟨rfl, ?_⟩
          walk_at "st"
          have ez : zs[i]? = some zs[i] := List.getElem?_eq_getElem hi
          rw [List.getElem?_map, ez] at ex
          obtain ⟨d1, ed, jv⟩ := iz.get ez
          have hin : (zs[i].1, zs[i].2) ∈ kvs := pz.mem_iff.mp (List.getElem_mem hi)
          have hva := valV_of nda hin
          have hmem : (kD zs[i].1, d1) ∈ ds := pd.mem_iff.mp (List.mem_of_getElem? ed)
          cases ex
          have gB : Nx [D, s] H H2 := (gA.mono (by simp)).trans g2
          have gC : Nx [s] H H2 := Nx.drop gB nD0
          have hsub : ∀ x ∈ [s], x ∈ S := by simpa using hsS
          refine ⟨a, zs[i].2, rfl, .inl ⟨kvs, zs[i].1, (gC.mono hsub).rx a _ na .d ra, rfl, hva.symm⟩, ?_⟩
          have jD : Im (D :: S) H2 zs[i].2 d1 := jv.over nD0 (gB.mono (by simp [hsS]))
          have hw2 : wtKv (ds2.take i) + wt d1 ≤ wtKv ds := by
            rw [← wtKv_succ ed, ← wtKv_perm pd]; exact wtKv_take _
          refine ⟨s, zs[i].2, d1, D :: S, _, rfl, List.mem_cons_of_mem _ hsS, (hal.mono gC).cons eD, jD, hs2, by omega, ?_, (smKv_mem hsm.2 hmem).2, fun v' d' H3 lo im3 g3 hs3 => ?_⟩
          · have := depKv_mem hmem
            dsimp only at this
            omega
          · walk_at "st"
            intro T nT
            have eD3 : H3 D = some (.lst acc) := g3.kp D _ (by simpa using Ne.symm hDs) eD
            have hTD : T ≠ D := (ne_of_none eD3 nT).symm
            have eDT : (upd H3 T (.tup [kV zs[i].1, v'])) D = some (.lst acc) := by rw [upd_ne (Ne.symm hTD)]; exact eD3
            have halT : Al (D :: S) H3 := ((hal.mono gC).cons eD).mono g3
            have gT : Nx [D, s] H2 (upd H3 T (.tup [kV zs[i].1, v'])) := (g3.mono (by simp)).newP nT
            have gE := gT.putP (p := D) (o := .lst (acc ++ [V.ref T])) (by simp)
            refine ⟨acc, eDT, ?_, acc ++ [V.ref T], es ++ [(kD zs[i].1, d')], upd_same, by rw [List.length_append, hl]; rfl, ?_, hlo.take_snoc ed lo, g2.trans gE, ?_⟩
            · rw [hl]; exact Nat.lt_of_lt_of_le (show i < 10000 by omega) (by decide)
            · rw [List.map_append]
              have gs : ∀ x ∈ [D, s], x ∈ D :: S := by simp [hsS]
              have g4 : Nx (D :: S) H3 (upd (upd H3 T (.tup [kV zs[i].1, v'])) D (.lst (acc ++ [V.ref T]))) := (Nx.new nT).putP (by simp)
              refine (im.nx (gE.mono gs)).snoc (.tup (halT.ne nT) (.inl (by rw [upd_ne hTD, upd_same])) (.cons (Im.key _) (.cons (im3.nx g4) .nil)))
            · have hs4 : Spr H3 s (m + ds.length + wtKv (ds2.take i) + wt d1) := hs3
              rw [wtKv_succ ed, ← Nat.add_assoc]
              exact (hs4.nx (S := []) (.new nT) (by simp)).nx (S := [D]) (.put (by simp)) (by simpa using hDs)
        · rintro H2 ⟨acc, es, eD, hl, im, hlo, g2, hs2⟩
          rw [List.length_map, List.take_of_length_le (by omega)] at hlo hs2
          walk_at "st"
          have gB : Nx [D, s] H H2 := (gA.mono (by simp)).trans g2
          have gC : Nx [s] H H2 := Nx.drop gB nD0
          refine s_dictP (S := S) (.inl eD) im.tail ?_ ?_ (hal.mono gC) (fun r H3 kv3 nr nrS g3 er ndr ir => ?_)
          · intro x hx
            have : x.1 ∈ ds2.map (·.1) := by rw [← hlo.keys]; exact List.mem_map_of_mem hx
            obtain ⟨y, hy, e⟩ := List.mem_map.mp this
            rw [← e]
            exact iz.kD y hy
          · rw [hlo.keys, iz.keys, show (zs.map fun kv => kD kv.1) = (zs.map (·.1)).map kD by rw [List.map_map]; rfl, List.nodup_iff_pairwise_ne, List.pairwise_map]
            exact (List.nodup_iff_pairwise_ne.mp ndz).imp fun hab z => hab (kD_inj z)
          · refine q _ _ H3 (.dct pd hlo) (.dct nrS (.inl er) ndr ir.tail) (gC.trans g3.of0) ?_
            rw [wtKv_perm pd] at hs2
            exact (hs2.nx g3 (by simp)).le (by omega)
      | _ => cases hD
    · walk_at "st"
      intro t1 nt1
      have hv1 := hv.nx (S := S) (.new (o := .tup [.ty "list", .ty "tuple"]) nt1)
      walk_at "st"
      refine s_isLT hv ?_ nt1
      have gt1 : Nx [] H (upd H t1 (.tup [.ty "list", .ty "tuple"])) := .new nt1
      generalize upd H t1 (.tup [.ty "list", .ty "tuple"]) = H1 at hv1 gt1 ⊢
      walk_at "st"
      refine ite_b (fun hL => ?_) (fun hL => ?_)
      · walk_at "st"
        have hLT := Bool.or_eq_false_iff.mp ((Bool.not_eq_true' _).mp hL)
        exact q _ _ _ (.leaf hD hLT.1 hLT.2) hv1 gt1.of0 ((hsp.nx gt1 (by simp)).le (by omega))
      · walk_at "st"
        have hLT : (isListD d || isTupD d) = true := by revert hL; cases isListD d <;> cases isTupD d <;> simp
        refine s_iseq hv1 hLT (fun Q hq => s_var rfl hq) (fun J xs ds G hds ia hr hG => ?_)
        intro D nD
        have nD0 : H D = none := gt1.fresh nD
        have hDs : s ≠ D := fun z => hsp.al (by rw [z]; exact nD0)
        have hwt : wt d = wtAll ds + 1 := by rcases hds with e | e <;> rw [e, wt]
        have hdep : depAll ds + 1 = dep d := by rcases hds with e | e <;> rw [e, dep]
        have hsm2 : ds.length ≤ 1000 ∧ smAll ds = true := by rcases hds with e | e <;> (rw [e, sm, Bool.and_eq_true] at hsm; exact ⟨of_decide_eq_true hsm.1, hsm.2⟩)
        have hlx := ia.length
        refine lc_runs hr (fun i H' => ∃ acc es, H' D = some (.lst acc) ∧ acc.length = i ∧ ImAll (D :: S) H' acc es ∧ LoAll (ds.take i) es ∧ Nx [D, s] H1 H' ∧ Spr H' s (m + wtAll (ds.take i))) ?_ (fun i H' => fun ⟨acc, es, eD, hl, im, hlo, g, hs⟩ => ?_) ?_ ?_
        · exact ⟨[], [], upd_same, rfl, .nil, .nil, .new nD, (hsp.nx gt1 (by simp)).nx (S := []) (.new nD) (by simp)⟩
        · exact hG _ (((g.mono (by simp)).drop nD : Nx [s] H1 H').mono (by simpa using hsS)).rx
        · rintro i Hx x H2 hi ⟨acc, es, eD, hl, im, hlo, g2, hs2⟩ ⟨e, ex⟩
          subst e
          walk_at "st"
          refine ⟨rfl, ?_⟩
          walk_at "st"
          obtain ⟨d1, ed, jv⟩ := ia.at_ ex
          have gC : Nx [s] H1 H2 := Nx.drop g2 nD
          have hsub : ∀ x ∈ [s], x ∈ S := by simpa using hsS
          have jD : Im (D :: S) H2 x d1 := jv.over nD (g2.mono (by simp [hsS]))
          have hw2 : wtAll (ds.take i) + wt d1 ≤ wtAll ds := by
            rw [← wtAll_succ ed]; exact wtAll_take _
          have hmem := List.mem_of_getElem? ed
          refine ⟨s, x, d1, D :: S, _, rfl, List.mem_cons_of_mem _ hsS, ((hal.mono gt1).mono gC).cons eD, jD, hs2, by omega, ?_, smAll_mem hsm2.2 hmem, fun v' d' H3 lo im3 g3 hs3 => ?_⟩
          · have := depAll_mem hmem
            omega
          · have eD3 : H3 D = some (.lst acc) := g3.kp D _ (by simpa using Ne.symm hDs) eD
            have gs : ∀ x ∈ [D, s], x ∈ D :: S := by simp [hsS]
            have gE : Nx [D, s] H2 (upd H3 D (.lst (acc ++ [v']))) := (g3.mono (by simp)).putP (by simp)
            refine ⟨acc, eD3, ?_, acc ++ [v'], es ++ [d'], upd_same, by rw [List.length_append, hl]; rfl, ?_, hlo.take_snoc ed lo, g2.trans gE, ?_⟩
            · rw [hl]; exact Nat.lt_of_lt_of_le (show i < 10000 by omega) (by decide)
            · exact (im.nx (gE.mono gs)).snoc (im3.nx (.put (by simp)))
            · rw [wtAll_succ ed, ← Nat.add_assoc]
              exact hs3.nx (S := [D]) (.put (by simp)) (by simpa using hDs)
        · rintro H2 ⟨acc, es, eD, hl, im, hlo, g2, hs2⟩
          rw [List.take_of_length_le (by omega)] at hlo hs2
          have gC : Nx [s] H H2 := gt1.of0.trans (Nx.drop g2 nD)
          have nDS : D ∉ S := hal.ne nD0
          walk_at "st"
          refine ⟨s, _, 2, rfl, hs2, by omega, by omega, by omega, fun r H3 r0 r1 g3 hs3 => ?_⟩
          have eD3 : H3 D = some (.lst acc) := g3.kp D _ (by simpa using Ne.symm hDs) eD
          have im3 : ImAll S H3 acc es := im.tail.nx (g3.mono (by simpa using hsS))
          have hloL : ∀ e, (e = .list es ∨ e = .tuple es) → Lo d e := by
            rintro e (rfl | rfl) <;> rcases hds with e1 | e1 <;> rw [e1] <;> constructor <;> exact hlo
          walk_at "st"
          refine ite_b (fun _ => ?_) (fun _ => ?_)
          · walk_at "st"
            exact q _ _ H3 (hloL _ (.inl rfl)) (.lst nDS (.inl eD3) im3) (gC.trans g3) (hs3.le (by omega))
          · walk_at "st"
            refine ⟨D, acc, rfl, .inl ⟨.of eD3, fun t nt => ?_⟩⟩
            exact q _ _ _ (hloL _ (.inr rfl)) (.tup ((hal.mono (gC.trans g3)).ne nt) (.inl upd_same) (im3.nx (.new nt))) ((gC.trans g3).newP nt) ((hs3.nx (S := []) (.new nt) (by simp)).le (by omega))


theorem ok_is_integer {P : Program} {w : World} {K : PySem.W.Frag} {mg : Str → Option Value} {base : Heap} (T : Bn mg) 
    {f : Addr} {fd : FuncData} (F : FunD K "is_integer" "is_integer" (defArgs s_is_integer) (defBody s_is_integer) (defScope s_is_integer) [] [] f fd) :
    FnOk P w K mg base CX0 1 f fd ["thing"] (sp_is_integer K) := by
  refine F.ok sc_is_integer (fun vs H Q E h => ?_) (fun cdv A outer s H vs Q E hr h => ?_)
  · obtain ⟨v, S, d, rfl, _⟩ := h
    rfl
  · obtain ⟨v, S, d, rfl, hv, q⟩ := h
    refine ⟨_, PSs.nox (pss_one (ps_ret (pe_and (pe_callB kisD (by rfl) T.isinstance (by decide +kernel) (pa_cons (pv 0) (pa_cons (pe_tyn "int" T.int) pa_nil))) (pe_one (pe_not (pe_callB kisD (by rfl) T.isinstance (by decide +kernel) (pa_cons (pv 0) (pa_cons (pe_tyn "bool" T.bool) pa_nil)))))))), ?_⟩
    walk_at "go"
    refine ite_b (fun h => ?_) (fun h => ?_)
    · walk_at "st"
      have e : (!isBoolD d) = isIntB d := by cases d <;> first | rfl | cases h
      rw [e]
      exact q
    · have e : isIntB d = false := by cases d <;> first | rfl | cases h
      rw [e] at q
      exact q


theorem ok_is_between {P : Program} {w : World} {K : PySem.W.Frag} {mg : Str → Option Value} {base : Heap} (T : Bn mg)
    (C_is_integer : Df P w K mg base CX0 1 "is_integer" ["thing"] (sp_is_integer K)) 
    {f : Addr} {fd : FuncData} (F : FunD K "is_between" "is_between" (defArgs s_is_between) (defBody s_is_between) (defScope s_is_between) [] [] f fd) :
    FnOk P w K mg base CX0 2 f fd ["thing", "low", "high"] (sp_is_between K) := by
  refine F.ok sc_is_between (fun vs H Q E h => ?_) (fun cdv A outer s H vs Q E hr h => ?_)
  · obtain ⟨v, lo, hi, S, d, rfl, _⟩ := h
    rfl
  · obtain ⟨v, lo, hi, S, d, rfl, hv, q⟩ := h
    refine ⟨_, PSs.nox (pss_one (ps_ret (pe_and (pe_df C_is_integer hr (pa_cons (pv 0) pa_nil)) (pe_one (pe_chain op_le op_le (pv 1) (pv 0) (pv 2)))))), ?_⟩
    walk_at "go"
    refine ⟨v, S, d, rfl, hv, ?_⟩
    walk_at "st"
    refine ite_b (fun h => ?_) (fun h => ?_)
    · walk_at "st"
      cases d with
      | int i =>
        cases hv
        walk_at "st"
        refine ite_b (fun h1 => ?_) (fun h1 => ?_)
        · walk_at "st"
          rw [betB, h1, Bool.true_and] at q
          exact q
        · rw [betB, h1, Bool.false_and] at q
          exact q
      | _ => cases h
    · have e : betB d lo hi = false := by cases d <;> first | rfl | cases h
      rw [e] at q
      exact q


theorem ok_is_list {P : Program} {w : World} {K : PySem.W.Frag} {mg : Str → Option Value} {base : Heap} (T : Bn mg) 
    {f : Addr} {fd : FuncData} (F : FunD K "is_list" "is_list" (defArgs s_is_list) (defBody s_is_list) (defScope s_is_list) [] [] f fd) :
    FnOk P w K mg base CX0 1 f fd ["thing"] (sp_is_list K) := by
  refine F.ok sc_is_list (fun vs H Q E h => ?_) (fun cdv A outer s H vs Q E hr h => ?_)
  · obtain ⟨v, S, d, rfl, _⟩ := h
    rfl
  · obtain ⟨v, S, d, rfl, hv, q⟩ := h
    refine ⟨_, PSs.nox (pss_one (ps_ret (pe_callB kisDT (by rfl) T.isinstance (by decide +kernel) (pa_cons (pv 0) (pa_cons (pe_tup (pa_cons (pe_tyn "list" T.list) (pa_cons (pe_tyn "tuple" T.tuple) pa_nil))) pa_nil))))), ?_⟩
    walk_at "go"
    intro t1 nt1
    walk_at "st"
    refine s_isLT hv ?_ nt1
    exact q _ (.new nt1)


theorem ok_is_name {P : Program} {w : World} {K : PySem.W.Frag} {mg : Str → Option Value} {base : Heap} (T : Bn mg)
    (T_LETTERS : ∃ t, mg "LETTERS" = some (.str "abcdefghijklmnopqrstuvwxyz" t))
    (T_SIGNS : ∃ t, mg "SIGNS" = some (.str "abcdefghijklmnopqrstuvwxyz0123456789" t)) 
    {f : Addr} {fd : FuncData} (F : FunD K "is_name" "is_name" (defArgs s_is_name) (defBody s_is_name) (defScope s_is_name) [] [] f fd) :
    FnOk P w K mg base CX0 1 f fd ["thing"] (sp_is_name K) := by
  refine F.ok sc_is_name (fun vs H Q E h => ?_) (fun cdv A outer s H vs Q E hr h => ?_)
  · obtain ⟨v, S, d, rfl, _⟩ := h
    rfl
  · obtain ⟨v, S, d, rfl, hv, hsm, q⟩ := h
    refine ⟨_, PSs.nox (pss_cons (ps_if (PW.pt (pw_or (pt_not (pt_val (pe_callB kisD (by rfl) T.isinstance (by decide +kernel) (pa_cons (pv 0) (pa_cons (pe_tyn "str" T.str) pa_nil))))) (pw_or1 (pt_not (pt_chain op_le op_le pe_int (pe_callB (klen K) (by rfl) T.len (by decide +kernel) (pa_cons (pv 0) pa_nil)) pe_int))))) (pss_one (ps_ret pe_bl)) pss_nil)
    (pss_cons (ps_if (pt_cmpR op_notIn_sign (pe_ix ix_str (pv 0) pe_int (fun _ _ => rfl)) (pe_gs T_LETTERS) (by rfl)) (pss_one (ps_ret pe_bl)) pss_nil)
    (pss_one (ps_ret (pe_callB (kall K) (by rfl) T.all (by decide +kernel) (pa_cons (pe_lc (own := [("sign", 1)]) (tt := tYes) rfl sc_is_name.nd (pi_str (pv 0)) (blkOk_by (N := n_is_name) (sc := defScope s_is_name) (by decide +kernel)) (fun _ _ _ _ _ => (pg_name (i := 1) sc_is_name.nd rfl (Or.inl rfl))) (fun _ _ _ _ _ => pts_nil) (fun _ _ _ _ _ => (pe_cmpR op_in_sign (pv 1) (pe_gs T_SIGNS) (by rfl)))) pa_nil)))))), ?_⟩
    walk_at "go"
    refine ite_b (fun h => ?_) (fun h => ?_)
    · walk_at "st"
      have e : nameB d = false := by cases d <;> first | rfl | cases h
      rw [e] at q
      exact q H (.refl _ _)
    · walk_at "st"
      cases d with
      | str x =>
        cases hv
        have hl : x.length ≤ 1000 := of_decide_eq_true hsm
        have hl2 : x.length ≤ sizeLine := Nat.le_trans hl (by decide)
        refine ⟨_, _, rfl, .inl ⟨hl2, rfl⟩, ?_⟩
        walk_at "st"
        have q' : ∀ H', Nx [] H H' → ∀ b, b = nmB x → Q (.bl b) H' := fun H' g b e => by rw [e]; exact q H' g
        refine ite_d (fun h1 => ?_) (fun h1 => ?_)
        · walk_at "st"
          refine ite_n (fun h2 => ?_) (fun h2 => ?_)
          · walk_at "st"
            refine q' H (.refl _ _) _ ?_
            unfold nmB
            rw [decide_eq_false (show ¬ x.length ≤ 8 by omega), Bool.and_false, Bool.false_and, Bool.false_and]
          · walk_at "st"
            have hx0 : 0 < x.cps.toList.length := by rw [← str_len]; omega
            have e0 : x.cps.toList[0]? = some x.cps.toList[0] := List.getElem?_eq_getElem hx0
            refine ⟨x, 0, x.cps.toList[0], rfl, rfl, hl2, atA (j := 0) e0 rfl, ?_⟩
            walk_at "st"
            refine ⟨_, letS, rfl, rfl, ?_⟩
            walk_at "st"
            rw [letS_codes]
            refine ite_n (fun h3 => ?_) (fun h3 => ?_)
            · walk_at "st"
              refine q' H (.refl _ _) _ ?_
              unfold nmB
              rw [e0, Option.any_some, decide_eq_false h3, Bool.and_false, Bool.false_and]
            · walk_at "st"
              refine ⟨x, rfl, ?_⟩
              intro D nD
              refine lc_runs runs_str (fun i H' => H' D = some (.lst ((x.cps.toList.take i).map fun c => V.bl (decide (c ∈ sigC)))) ∧ Nx [] H H') ⟨upd_same, .new nD⟩ (fun _ _ _ => trivial) ?_ ?_
              · rintro i Hx v H2 hi ⟨eD, g⟩ ⟨e, c, ec, rfl⟩
                subst e
                walk_at "st"
                refine ⟨rfl, ?_⟩
                walk_at "st"
                refine ⟨c, sigS, rfl, rfl, ?_⟩
                have hi2 : i < 1000 := by have : x.cps.size = x.length := rfl; omega
                refine ⟨_, eD, ?_, ?_, ?_⟩
                · rw [List.length_map, List.length_take]; exact Nat.lt_of_le_of_lt (Nat.min_le_left _ _) (Nat.lt_trans hi2 (by decide))
                · rw [upd_same, sigS_codes, List.take_add_one, Array.getElem?_toList, ec, List.map_append]; rfl
                · exact (g.of0.putP (by simp) : Nx [D] H _).drop nD
              · rintro H2 ⟨eD, g⟩
                walk_at "st"
                refine ⟨D, x.cps.toList.map fun c => decide (c ∈ sigC), rfl, .of (by rw [eD, List.take_of_length_le (by simp), List.map_map]; rfl), ?_⟩
                refine q' H2 g _ ?_
                unfold nmB
                rw [e0, Option.any_some, decide_eq_true h3, decide_eq_true (show 1 ≤ x.length by omega), decide_eq_true (show x.length ≤ 8 by omega), List.all_map]
                rfl
        · walk_at "st"
          refine q' H (.refl _ _) _ ?_
          unfold nmB
          rw [decide_eq_false (show ¬ 1 ≤ x.length by omega), Bool.false_and, Bool.false_and, Bool.false_and]
      | _ => cases h


theorem ok_check_hours {P : Program} {w : World} {K : PySem.W.Frag} {mg : Str → Option Value} {base : Heap} (T : Bn mg)
    (C_is_between : Df P w K mg base CX0 2 "is_between" ["thing", "low", "high"] (sp_is_between K))
    (T_MOST_HOURS : ∃ t, mg "MOST_HOURS" = some (.int 1000 t)) 
    {f : Addr} {fd : FuncData} (F : FunD K "check_hours" "check_hours" (defArgs s_check_hours) (defBody s_check_hours) (defScope s_check_hours) [] [] f fd) :
    FnOk P w K mg base CX0 3 f fd ["hours"] (sp_check_hours K) := by
  refine F.ok sc_check_hours (fun vs H Q E h => ?_) (fun cdv A outer s H vs Q E hr h => ?_)
  · obtain ⟨x, rfl, _⟩ := h
    rfl
  · obtain ⟨x, rfl, h1, h2, q⟩ := h
    refine ⟨_, PSs.nox (pss_one (ps_if (pt_not (pt_val (pe_df C_is_between hr (pa_cons (pv 0) (pa_cons pe_int (pa_cons (pe_gi T_MOST_HOURS) pa_nil)))))) (pss_one ps_never) pss_nil)), ?_⟩
    walk_at "go"
    refine ⟨_, 1, 1000, [], _, rfl, .int x, ?_⟩
    walk_at "st"
    rw [show betB (.int x) 1 1000 = true by rw [betB, decide_eq_true h1, decide_eq_true h2]; rfl]
    walk_at "st"
    exact q


theorem ok_are_arcs {P : Program} {w : World} {K : PySem.W.Frag} {mg : Str → Option Value} {base : Heap} (T : Bn mg)
    (C_is_list : Df P w K mg base CX0 1 "is_list" ["thing"] (sp_is_list K))
    (C_is_name : Df P w K mg base CX0 1 "is_name" ["thing"] (sp_is_name K))
    (C_is_between : Df P w K mg base CX0 2 "is_between" ["thing", "low", "high"] (sp_is_between K))
    (T_FORTY : ∃ t, mg "FORTY" = some (.int 40 t)) 
    {f : Addr} {fd : FuncData} (F : FunD K "are_arcs" "are_arcs" (defArgs s_are_arcs) (defBody s_are_arcs) (defScope s_are_arcs) [] [] f fd) :
    FnOk P w K mg base CX0 3 f fd ["hours", "thing"] (sp_are_arcs K) := by
  refine F.ok sc_are_arcs (fun vs H Q E h => ?_) (fun cdv A outer s H vs Q E hr h => ?_)
  · obtain ⟨x, v, S, d, rfl, _⟩ := h
    rfl
  · obtain ⟨x, v, S, d, rfl, hv, hsm, q⟩ := h
    refine ⟨_, PSs.nox (pss_cons (ps_if (PW.pt (pw_or (pt_not (pt_val (pe_callB kisD (by rfl) T.isinstance (by decide +kernel) (pa_cons (pv 1) (pa_cons (pe_tyn "dict" T.dict) pa_nil))))) (pw_or1 (pt_cmpR op_gt (pe_callB (klen K) (by rfl) T.len (by decide +kernel) (pa_cons (pv 1) pa_nil)) (pe_gi T_FORTY) (nomark _))))) (pss_one (ps_ret pe_bl)) pss_nil)
    (pss_cons (ps_lockU (ps_for PassesOwn.never rfl (pi_keys (pv 1)) (pg_name (i := 2) sc_are_arcs.nd rfl (Or.inl rfl))
      (pss_cons (ps_if (PW.pt (pw_or (pt_not (pt_val (pe_df C_is_name hr (pa_cons (pv 2) pa_nil)))) (pw_or (pt_not (pt_val (pe_df C_is_list hr (pa_cons (pe_dget (hu_of hr) (pv 1) (pv 2) (fun _ _ => rfl)) pa_nil)))) (pw_or1 (pt_cmpR op_ne (pe_callB (klen K) (by rfl) T.len (by decide +kernel) (pa_cons (pe_dget (hu_of hr) (pv 1) (pv 2) (fun _ _ => rfl)) pa_nil)) pe_int (nomark _)))))) (pss_one (ps_ret pe_bl)) pss_nil)
    (pss_cons (ps_asg (pe_dget (hu_of hr) (pv 1) (pv 2) (fun _ _ => rfl)) (kgseq (n := 2) K rfl (pgs_cons (pg_name (i := 3) sc_are_arcs.nd rfl (Or.inl rfl)) (pgs_cons (pg_name (i := 4) sc_are_arcs.nd rfl (Or.inl rfl)) pgs_nil))))
    (pss_one (ps_if (PW.pt (pw_or (pt_not (pt_val (pe_df C_is_between hr (pa_cons (pv 3) (pa_cons pe_int (pa_cons (pe_op op_sub (pv 0) pe_int) pa_nil)))))) (pw_or1 (pt_not (pt_val (pe_df C_is_between hr (pa_cons (pv 4) (pa_cons pe_int (pa_cons (pv 0) pa_nil))))))))) (pss_one (ps_ret pe_bl)) pss_nil))))))
    (pss_one (ps_ret pe_bl)))), ?_⟩
    walk_at "go"
    refine ite_b (fun h => ?_) (fun h => ?_)
    · walk_at "st"
      have e : arcsB x d = false := by cases d <;> first | rfl | cases h
      rw [e] at q
      exact q H (.refl _ _)
    · walk_at "st"
      cases d with
      | dict ds =>
        cases hv with
        | @dct a kvs _ na ra nda ia =>
        rw [sm, Bool.and_eq_true] at hsm
        have hl := ia.length
        refine ⟨_, _, rfl, .inr ⟨a, _, rfl, ra, rfl⟩, ?_⟩
        walk_at "st"
        refine ite_d (fun h1 => ?_) (fun h1 => ?_)
        · walk_at "st"
          have e : arcsB x (.dict ds) = false := by rw [arcsB, decide_eq_false (by omega), Bool.false_and]
          rw [e] at q
          exact q H (.refl _ _)
        · walk_at "st"
          refine lock_s ra (fun H1 od nx rt bk ct gx gb e1 hnx hrt => ?_)
          walk_at "st"
          refine ⟨a, od, rfl, .inl ⟨kvs, e1, ?_⟩⟩
          have gx' : ∀ {H' : Hp}, Nx [] H1 H' → Rx [] H H' := fun g => gx.trans g.rx
          have fin : ∀ (H' : Hp), H' a = some (.frz od (.dK kvs)) → Nx [] H1 H' → ∀ H2, Rx [] H' H2 → (∀ b, b ≠ a → H2 b = H' b) → H2 a = H a → Nx [] H H2 := fun H' e g H2 _ gb2 e2 => by
            refine ⟨fun c o _ h => ?_, fun c h => ?_⟩
            · by_cases hc : c = a
              · rw [hc, e2, ← hc]; exact h
              · rw [gb2 c hc]; exact g.kp c o (by simp) (by rw [gb c hc]; exact h)
            · by_cases hc : c = a
              · rw [hc, e2, ← hc]; exact h
              · rw [gb2 c hc]; exact g.th c (by rw [gb c hc]; exact h)
          refine for_runs runs_keys (fun i σ H' => ∃ u w, σ = [some (.int x), some (.ref a), u, w.1, w.2] ∧ Nx [] H1 H' ∧ (ds.take i).all (fun p => nameB p.1 && arcB x p.2) = true) ⟨_, (_, _), rfl, .refl _ _, rfl⟩ (fun i σ H' => fun ⟨_, _, _, g, _⟩ => g.kp a _ (by simp) e1) ?_ ?_
          · rintro i σ Hx y H2 hi ⟨u, w, rfl, g, hp⟩ ⟨e, k, v, ek, rfl⟩
            subst e
            walk_at "st"
            obtain ⟨d1, ed, jv⟩ := ia.get ek
            have hmem := List.mem_of_getElem? ed
            obtain ⟨sk, sd⟩ := smKv_mem hsm.2 hmem
            refine ⟨kV k, [], kD k, rfl, Im.key k, sk, fun H3 g3 => ?_⟩
            walk_at "st"
            have gB : Nx [] H1 H3 := g.trans g3
            have stop : ∀ H4, Nx [] H3 H4 → (nameB (kD k) && arcB x d1) = false → rt (.bl false) H4 := fun H4 g4 hb => by
              have gC := gB.trans g4
              have e4 : H4 a = some (.frz od (.dK kvs)) := gC.kp a _ (by simp) e1
              refine hrt _ _ e4 fun H5 gx5 gb5 e5 => ?_
              have ef : arcsB x (.dict ds) = false := by
                rw [arcsB]
                have : ds.all (fun p => nameB p.1 && arcB x p.2) = false := by
                  rw [List.all_eq_false]
                  exact ⟨_, hmem, by dsimp only; rw [hb]; decide⟩
                rw [this, Bool.and_false]
              rw [← ef]
              exact q H5 (fin H4 e4 gC H5 gx5 gb5 e5)
            have dg : ∀ {H4 : Hp}, Nx [] H3 H4 → DGet H4 a (kV k) (some v) := fun {H4} g4 => .inl ⟨kvs, k, .inr ⟨od, (gB.trans g4).kp a _ (by simp) e1⟩, rfl, (valV_of nda (List.mem_of_getElem? ek)).symm⟩
            refine ite_nb (fun hn => ?_) (fun hn => ?_)
            · walk_at "st"
              exact stop H3 (.refl _ _) (by rw [hn]; rfl)
            · walk_at "st"
              refine ⟨a, v, rfl, dg (.refl _ _), ?_⟩
              have jv3 : Im S H3 v d1 := jv.rx (gx.trans gB.rx).mono0 _
              walk_at "st"
              refine ⟨v, S, d1, rfl, jv3, fun H4 g4 => ?_⟩
              walk_at "st"
              refine ite_nb (fun hL => ?_) (fun hL => ?_)
              · walk_at "st"
                refine stop H4 g4 ?_
                have : arcB x d1 = false := by cases d1 <;> first | rfl | cases hL
                rw [this, Bool.and_false]
              · walk_at "st"
                refine ⟨a, v, rfl, dg g4, ?_⟩
                have jv4 : Im S H4 v d1 := jv3.nx g4.of0
                obtain ⟨b, xs, es, rfl, hq, nb, ib, he⟩ := jv4.seq (K := K) hL
                walk_at "st"
                refine ⟨_, _, rfl, .inl (len_seq hq), ?_⟩
                walk_at "st"
                have hle := ib.length
                refine ite_n (fun h2 => ?_) (fun h2 => ?_)
                · walk_at "st"
                  refine stop H4 g4 ?_
                  rw [arcB_of he, arcL_len (by omega), Bool.and_false]
                · walk_at "st"
                  refine ⟨a, _, rfl, dg g4, ?_⟩
                  cases ib with
                  | nil => simp at h2
                  | cons i1 t1 =>
                    cases t1 with
                    | nil => simp at h2
                    | cons i2 t2 =>
                      cases t2 with
                      | cons i3 t3 => simp at h2; omega
                      | nil =>
                        refine s_gseq hq rfl ?_
                        walk_at "st"
                        refine ⟨_, 0, x - 1, S, _, rfl, i1, ?_⟩
                        walk_at "st"
                        have ha : arcB x d1 = arcL x _ := arcB_of he
                        refine ite_nb (fun hb1 => ?_) (fun hb1 => ?_)
                        · walk_at "st"
                          refine stop H4 g4 ?_
                          rw [ha, arcL, hb1, Bool.false_and, Bool.and_false]
                        · walk_at "st"
                          refine ⟨_, 1, x, S, _, rfl, i2, ?_⟩
                          walk_at "st"
                          refine ite_nb (fun hb2 => ?_) (fun hb2 => ?_)
                          · walk_at "st"
                            refine stop H4 g4 ?_
                            rw [ha, arcL, hb2, Bool.and_false, Bool.and_false]
                          · walk_at "st"
                            refine ⟨_, (_, _), rfl, gB.trans g4, ?_⟩
                            rw [List.take_add_one, ed, List.all_append, hp]
                            show (true && ((nameB (kD k) && arcB x d1) && true)) = true
                            rw [hn, ha, arcL, hb1, hb2]
                            rfl
          · rintro σ H2 ⟨u, w, rfl, g, hp⟩
            rw [List.take_of_length_le (by omega)] at hp
            have e2 : H2 a = some (.frz od (.dK kvs)) := g.kp a _ (by simp) e1
            refine hnx _ _ e2 fun H5 gx5 gb5 e5 => ?_
            walk_at "st"
            have et : arcsB x (.dict ds) = true := by rw [arcsB, hp, decide_eq_true (show ds.length ≤ 40 by omega)]; rfl
            rw [← et]
            exact q H5 (fin H2 e2 g H5 gx5 gb5 e5)
      | _ => cases h


theorem ok_Ring_init {P : Program} {w : World} {K : PySem.W.Frag} {mg : Str → Option Value} {base : Heap} (T : Bn mg)
    {C : Addr} (RC : RingC K mg C)
    (C_check_hours : Df P w K mg base CX0 3 "check_hours" ["hours"] (sp_check_hours K))
    (C_are_arcs : Df P w K mg base CX0 3 "are_arcs" ["hours", "thing"] (sp_are_arcs K)) 
    {f : Addr} {fd : FuncData} (F : FunD K "__init__" "Ring.__init__" (defArgs s_Ring_init) (defBody s_Ring_init) (defScope s_Ring_init) [] [] f fd) :
    FnOk P w K mg base CX0 4 f fd ["self", "hours", "arcs"] (sp_Ring_init K C) := by
  refine F.ok sc_Ring_init (fun vs H Q E h => ?_) (fun cdv A outer s H vs Q E hr h => ?_)
  · obtain ⟨x, dx, h, v, S, A, d, rfl, _⟩ := h
    rfl
  · obtain ⟨x, dx, h, v, S, A, d, rfl, ex, hal, hv, lo, ok, hA, h1, h2, q⟩ := h
    refine ⟨_, PSs.nox (pss_cons (ps_expr (pe_df C_check_hours hr (pa_cons (pv 1) pa_nil)))
    (pss_cons (ps_if (pt_not (pt_val (pe_df C_are_arcs hr (pa_cons (pv 1) (pa_cons (pv 2) pa_nil))))) (pss_one ps_never) pss_nil)
    (pss_cons (kps_fld K (pv 0) (pv 1) rfl)
    (pss_one (kps_fld K (pv 0) (pe_dc (own := [("name", 3)]) (tt := tYes) rfl sc_Ring_init.nd (ki_list K (pe_callB (call_sortedD rfl) (by rfl) T.sorted (by decide +kernel) (pa_cons (pv 2) pa_nil))) (blkOk_by (N := n_Ring_init) (sc := defScope s_Ring_init) (by decide +kernel)) (fun _ _ _ _ _ => (pg_name (i := 3) sc_Ring_init.nd rfl (Or.inl rfl))) (fun _ _ _ _ _ => pts_nil) (fun _ _ _ _ _ => (pv 3)) (fun _ _ _ _ _ => (pe_tup (pa_cons (pe_ix (kx_seq K) (pe_dget (hu_of hr) (pv 2) (pv 3) (fun _ _ => rfl)) pe_int (fun _ _ => rfl)) (pa_cons (pe_ix (kx_seq K) (pe_dget (hu_of hr) (pv 2) (pv 3) (fun _ _ => rfl)) pe_int (fun _ _ => rfl)) pa_nil))))) rfl))))), ?_⟩
    walk_at "go"
    refine ⟨h, rfl, h1, h2, ?_⟩
    walk_at "st"
    have hv' := hv
    obtain ⟨B, es, pb, rfl, lk⟩ := lo_arcs lo
    refine ⟨h, v, _, _, rfl, hv, arcs_sm (by omega) ok hA lo, fun H1 g1 => ?_⟩
    rw [arcs_taken ok hA lo]
    walk_at "st"
    have ex1 : H1 x = some (.ins C dx []) := g1.kp x _ (by simp) ex
    refine ⟨x, C, dx, _, rfl, ex1, RC.cls, RC.nh, by decide, ?_⟩
    walk_at "st"
    have hal1 : Al (x :: S) H1 := hal.mono g1
    have hv1 : Im (x :: S) H1 v (.dict es) := hv.nx g1.of0
    have g2 : Nx [x] H1 (upd H1 x (.ins C dx (putF "own_hours" (.int h) []))) := .put (by simp)
    have ex2 : (upd H1 x (.ins C dx (putF "own_hours" (.int h) []))) x = some (.ins C dx (putF "own_hours" (.int h) [])) := upd_same
    have hv2 : Im (x :: S) (upd H1 x (.ins C dx (putF "own_hours" (.int h) []))) v (.dict es) := hv1.nx (g2.mono (by simp))
    have hal2 : Al (x :: S) (upd H1 x (.ins C dx (putF "own_hours" (.int h) []))) := hal1.mono g2
    generalize upd H1 x (.ins C dx (putF "own_hours" (.int h) [])) = H2 at g2 ex2 hv2 hal2 ⊢
    have oB := ok.perm pb
    have hBl : B.length ≤ 40 := by rw [pb.length_eq]; exact hA
    cases hv2 with
    | @dct a kvs _ na ra nda ia =>
    have hkeys : kvs.map (·.1) = (B.map (·.1)).map Sum.inr := by
      refine kD_map ?_
      have e1 := ia.keys
      rw [lk.keys] at e1
      rw [List.map_map, List.map_map]
      show (kvs.map fun kv => kD kv.1) = _
      rw [← e1]
      unfold kvsD
      rw [List.map_map]; rfl
    refine ⟨a, kvs, _, rfl, ra, hkeys, by rw [List.length_map]; omega, fun ys p hp hs np => ?_⟩
    have hpn : ys.Perm (A.map (·.1)) := hp.trans (pb.map _)
    have hyl : ys.length ≤ 40 := by rw [hp.length_eq, List.length_map]; exact hBl
    have hpx : p ≠ x := fun z => by rw [z, ex2] at np; cases np
    have g3 : Nx [] H2 (upd H2 p (.lst (ys.map V.str))) := .new np
    refine ⟨p, rfl, ⟨_, .of upd_same⟩, fun D nD => ?_⟩
    have hDp : p ≠ D := fun z => by rw [← z, upd_same] at nD; cases nD
    have nD2 : H2 D = none := g3.fresh nD
    have hDx : D ≠ x := fun z => by rw [z, ex2] at nD2; cases nD2
    have hal3 : Al (x :: S) (upd H2 p (.lst (ys.map V.str))) := hal2.mono g3
    have hyn : ys.Nodup := hp.nodup_iff.mpr oB.nd
    have nDS : D ∉ x :: S := hal2.ne nD2
    refine dc_runs (runs_list (K := K) (a := p) (xs := ys.map V.str)) (fun i H' => ∃ kv, H' D = some (.dK kv) ∧ ImKv (D :: x :: S) H' kv (kvsD (arcsBy A (ys.take i))) ∧ Nx [D] (upd H2 p (.lst (ys.map V.str))) H') ⟨[], upd_same, .nil, .put (by simp)⟩ (fun i H' => fun ⟨kv, eD, ik, g⟩ => .inl (g.rx p _ (by simpa using hDp) .l (.inl upd_same))) ?_ ?_
    · rintro i Hx y H4 hi ⟨kv, eD, ik, g4⟩ ⟨e, ey⟩
      subst e
      rw [List.length_map] at hi
      rw [List.getElem?_map, List.getElem?_eq_getElem hi] at ey
      injection ey with ey
      subst ey
      walk_at "st"
      refine ⟨rfl, ?_⟩
      walk_at "st"
      have hnB : ys[i] ∈ B.map (·.1) := hp.mem_iff.mp (List.getElem_mem hi)
      have hnA : ys[i] ∈ A.map (·.1) := hpn.mem_iff.mp (List.getElem_mem hi)
      have g5 : Nx [] H2 H4 := Nx.drop (g3.of0.trans g4) nD2
      have ia4 : ImKv (x :: S) H4 kvs es := ia.nx g5.of0
      have ra4 : Rd H4 a (.dK kvs) := (Nx.rx (S := x :: S) g5.of0) a _ na .d ra
      obtain ⟨u, du, eu, iu, hu⟩ := lo_get oB.nd lk ia4 nda hnB
      rw [arcOf_perm ok.nd pb hnA] at hu
      refine ⟨a, u, rfl, .inl ⟨kvs, .inr ys[i], ra4, rfl, eu.symm⟩, ?_⟩
      obtain ⟨b, rfl, nb, hq⟩ := iu.pairish (K := K) hu
      walk_at "st"
      refine s_ixq hq (atI_at (j := 0) rfl rfl) ?_
      walk_at "st"
      refine ⟨a, _, rfl, .inl ⟨kvs, .inr ys[i], ra4, rfl, eu.symm⟩, ?_⟩
      walk_at "st"
      refine s_ixq hq (atI_at (j := 1) rfl rfl) ?_
      walk_at "st"
      intro t nt
      have htD : D ≠ t := ne_of_none eD nt
      have hal4 : Al (D :: x :: S) H4 := (hal2.mono g5).cons eD
      refine ⟨kv, .inr ys[i], rfl, by rw [upd_ne htD]; exact eD, ?_, _, upd_same, ?_, ?_⟩
      · rw [ik.length, kvsD_len]
        unfold arcsBy
        rw [List.length_map, List.length_take]
        exact Nat.lt_of_lt_of_le (show min i ys.length < 10000 by omega) (by decide)
      · have hkn : (Sum.inr ys[i] : Key) ∉ kv.map (·.1) := by
          rw [kvs_keys ik, arcsBy_names]
          intro z
          obtain ⟨y, hy, e⟩ := List.mem_map.mp z
          injection e with e
          subst e
          exact take_new hyn hi hy
        rw [putK_new hkn, arcsBy_snoc hi]
        unfold kvsD
        rw [List.map_append]
        have gE : Nx (D :: x :: S) H4 (upd (upd H4 t (.tup [.int (arcOf A ys[i]).1, .int (arcOf A ys[i]).2])) D (.dK (kv ++ [(.inr ys[i], .ref t)]))) := (Nx.new nt).putP (by simp)
        refine (ik.nx gE).snoc ?_
        show Im _ _ _ (arcD ((arcOf A ys[i]).1, (arcOf A ys[i]).2))
        exact Im.pair (hal4.ne nt) (by rw [upd_ne htD.symm, upd_same])
      · exact g4.trans ((Nx.new nt).putP (by simp))
    · rintro H4 ⟨kv, eD, ik, g4⟩
      rw [List.length_map, List.take_of_length_le (Nat.le_refl _)] at ik
      walk_at "st"
      have g5 : Nx [] H2 H4 := Nx.drop (g3.of0.trans g4) nD2
      refine ⟨x, C, dx, _, rfl, g5.kp x _ (by simp) ex2, RC.cls, RC.na, by rw [putF]; exact (by decide : 1 < 1000), ?_⟩
      rw [putF2]
      have gF : Nx [x] H4 (upd H4 x (.ins C dx [("own_hours", .int h), ("own_arcs", .ref D)])) := .put (by simp)
      have e9 : ∀ {o : HO}, (upd H4 x o) D = some (.dK kv) := fun {o} => by rw [upd_ne hDx]; exact eD
      refine q ys D _ hpn hs (g1.of0.trans (g2.trans (g5.of0.trans gF))) upd_same ?_
      have ndk : (kv.map (·.1)).Nodup := by rw [kvs_keys ik, arcsBy_names]; exact inr_nodup hyn
      exact .dct nDS (.inl e9) ndk (ik.nx (gF.mono (by simp))).tail


theorem ok_Ring_len {P : Program} {w : World} {K : PySem.W.Frag} {mg : Str → Option Value} {base : Heap} (T : Bn mg)
    {C : Addr} (RC : RingC K mg C) 
    {f : Addr} {fd : FuncData} (F : FunD K "__len__" "Ring.__len__" (defArgs s_Ring_len) (defBody s_Ring_len) (defScope s_Ring_len) [] [] f fd) :
    FnOk P w K mg base CX0 1 f fd ["self"] (sp_Ring_len K C) := by
  refine F.ok sc_Ring_len (fun vs H Q E h => ?_) (fun cdv A outer s H vs Q E hr h => ?_)
  · obtain ⟨a, S, h, A, rfl, _⟩ := h
    rfl
  · obtain ⟨a, S, h, A, rfl, ⟨na, dx, d, e, i⟩, q⟩ := h
    refine ⟨_, PSs.nox (pss_one (ps_ret (pe_callB (klen K) (by rfl) T.len (by decide +kernel) (pa_cons (kfld K (pv 0) rfl) pa_nil)))), ?_⟩
    walk_at "go"
    refine ⟨a, C, dx, _, _, rfl, e, RC.cls, RC.na, lk_a, ?_⟩
    walk_at "st"
    cases i with
    | @dct _ kvs _ n r nd ia =>
      refine ⟨_, _, rfl, .inr ⟨d, kvs, rfl, r, rfl⟩, ?_⟩
      rw [ia.length, kvsD_len]
      exact q


theorem ok_Ring_contains {P : Program} {w : World} {K : PySem.W.Frag} {mg : Str → Option Value} {base : Heap} (T : Bn mg)
    {C : Addr} (RC : RingC K mg C) 
    {f : Addr} {fd : FuncData} (F : FunD K "__contains__" "Ring.__contains__" (defArgs s_Ring_contains) (defBody s_Ring_contains) (defScope s_Ring_contains) [] [] f fd) :
    FnOk P w K mg base CX0 1 f fd ["self", "name"] (sp_Ring_contains K C) := by
  refine F.ok sc_Ring_contains (fun vs H Q E h => ?_) (fun cdv A outer s H vs Q E hr h => ?_)
  · obtain ⟨a, S, S2, h, A, v, d, rfl, _⟩ := h
    rfl
  · obtain ⟨a, S, S2, h, A, v, d, rfl, ⟨na, dx, dd, e, i⟩, hv, q⟩ := h
    refine ⟨_, PSs.nox (pss_one (ps_ret (pe_and (pe_callB kisD (by rfl) T.isinstance (by decide +kernel) (pa_cons (pv 1) (pa_cons (pe_tyn "str" T.str) pa_nil))) (pe_one (pe_cmpR (op_din (hu_of hr)) (pv 1) (kfld K (pv 0) rfl) (by rfl)))))), ?_⟩
    walk_at "go"
    refine ite_b (fun hs => ?_) (fun hs => ?_)
    · walk_at "st"
      cases d with
      | str x =>
        cases hv
        refine ⟨a, C, dx, _, _, rfl, e, RC.cls, RC.na, lk_a, ?_⟩
        cases i with
        | @dct _ kvs _ n r nd ia =>
          refine ⟨dd, _, rfl, .inl ⟨kvs, .inr x, r, rfl, rfl⟩, ?_⟩
          rw [has_key ia]
          exact q
      | _ => cases hs
    · have e2 : hasB A d = false := by cases d <;> first | rfl | cases hs
      rw [e2] at q
      exact q


theorem ok_Ring_hours {P : Program} {w : World} {K : PySem.W.Frag} {mg : Str → Option Value} {base : Heap} (T : Bn mg)
    {C : Addr} (RC : RingC K mg C) 
    {f : Addr} {fd : FuncData} (F : FunD K "hours" "Ring.hours" (defArgs s_Ring_hours) (defBody s_Ring_hours) (defScope s_Ring_hours) [] [] f fd) :
    FnOk P w K mg base CX0 1 f fd ["self"] (sp_Ring_hours K C) := by
  refine F.ok sc_Ring_hours (fun vs H Q E h => ?_) (fun cdv A outer s H vs Q E hr h => ?_)
  · obtain ⟨a, S, h, A, rfl, _⟩ := h
    rfl
  · obtain ⟨a, S, h, A, rfl, ⟨na, dx, d, e, i⟩, q⟩ := h
    refine ⟨_, PSs.nox (pss_one (ps_ret (kfld K (pv 0) rfl))), ?_⟩
    walk_at "go"
    exact ⟨a, C, dx, _, _, rfl, e, RC.cls, RC.nh, lk_h, q⟩


theorem ok_Ring_names {P : Program} {w : World} {K : PySem.W.Frag} {mg : Str → Option Value} {base : Heap} (T : Bn mg)
    {C : Addr} (RC : RingC K mg C) 
    {f : Addr} {fd : FuncData} (F : FunD K "names" "Ring.names" (defArgs s_Ring_names) (defBody s_Ring_names) (defScope s_Ring_names) [] [] f fd) :
    FnOk P w K mg base CX0 1 f fd ["self"] (sp_Ring_names K C) := by
  refine F.ok sc_Ring_names (fun vs H Q E h => ?_) (fun cdv A outer s H vs Q E hr h => ?_)
  · obtain ⟨a, S, h, A, rfl, _⟩ := h
    rfl
  · obtain ⟨a, S, h, A, rfl, ⟨na, dx, d, e, i⟩, hA, q⟩ := h
    refine ⟨_, PSs.nox (pss_one (ps_ret (pe_callB (call_sortedD rfl) (by rfl) T.sorted (by decide +kernel) (pa_cons (kfld K (pv 0) rfl) pa_nil)))), ?_⟩
    walk_at "go"
    refine ⟨a, C, dx, _, _, rfl, e, RC.cls, RC.na, lk_a, ?_⟩
    walk_at "st"
    cases i with
    | @dct _ kvs _ n r nd ia =>
      exact ⟨d, kvs, _, rfl, r, kvs_keys ia, by rw [List.length_map]; omega, q⟩


theorem ok_Ring_arc {P : Program} {w : World} {K : PySem.W.Frag} {mg : Str → Option Value} {base : Heap} (T : Bn mg)
    {C : Addr} (RC : RingC K mg C)
    (C_Ring_contains : Mt P w K mg base C 1 "__contains__" ["self", "name"] (sp_Ring_contains K C)) 
    {f : Addr} {fd : FuncData} (F : FunD K "arc" "Ring.arc" (defArgs s_Ring_arc) (defBody s_Ring_arc) (defScope s_Ring_arc) [] [] f fd) :
    FnOk P w K mg base CX0 2 f fd ["self", "name"] (sp_Ring_arc K C) := by
  refine F.ok sc_Ring_arc (fun vs H Q E h => ?_) (fun cdv A outer s H vs Q E hr h => ?_)
  · obtain ⟨a, S, h, A, n, rfl, _⟩ := h
    rfl
  · obtain ⟨a, S, h, A, n, rfl, ⟨na, dx, d, e, i⟩, nd, hn, q⟩ := h
    refine ⟨_, PSs.nox (pss_cons (ps_if (pt_cmpR (op_ownNotIn C_Ring_contains hr) (pv 1) (pv 0) (by rfl)) (pss_one ps_never) pss_nil)
    (pss_one (ps_ret (pe_dget (hu_of hr) (kfld K (pv 0) rfl) (pv 1) (fun _ _ => rfl))))), ?_⟩
    walk_at "go"
    refine ⟨a, dx, _, rfl, e, a, S, S, h, A, _, _, rfl, ⟨na, dx, d, e, i⟩, .str n, _, rfl, ?_⟩
    rw [show hasB A (.str n) = true from decide_eq_true hn]
    walk_at "st"
    rw [show (true != true) = false from rfl]
    walk_at "st"
    refine ⟨a, C, dx, _, _, rfl, e, RC.cls, RC.na, lk_a, ?_⟩
    walk_at "st"
    cases i with
    | @dct _ kvs _ n r ndk ia =>
      obtain ⟨v, ev, iv⟩ := arcs_get nd ia hn
      exact ⟨d, v, rfl, .inl ⟨kvs, .inr _, r, rfl, ev.symm⟩, q v iv⟩


theorem ok_is_map {P : Program} {w : World} {K : PySem.W.Frag} {mg : Str → Option Value} {base : Heap} (T : Bn mg)
    {C : Addr} (RC : RingC K mg C)
    (C_is_between : Df P w K mg base CX0 2 "is_between" ["thing", "low", "high"] (sp_is_between K))
    (C_Ring_hours : Mt P w K mg base C 1 "hours" ["self"] (sp_Ring_hours K C))
    (C_Ring_names : Mt P w K mg base C 1 "names" ["self"] (sp_Ring_names K C))
    (C_Ring_arc : Mt P w K mg base C 2 "arc" ["self", "name"] (sp_Ring_arc K C))
    (C_Ring_len : Mt P w K mg base C 1 "__len__" ["self"] (sp_Ring_len K C))
    (C_Ring_contains : Mt P w K mg base C 1 "__contains__" ["self", "name"] (sp_Ring_contains K C)) 
    {f : Addr} {fd : FuncData} (F : FunD K "is_map" "is_map" (defArgs s_is_map) (defBody s_is_map) (defScope s_is_map) [] [] f fd) :
    FnOk P w K mg base CX0 3 f fd ["ring", "twin", "by", "thing"] (sp_is_map K C) := by
  refine F.ok sc_is_map (fun vs H Q E h => ?_) (fun cdv A outer s H vs Q E hr h => ?_)
  · obtain ⟨r, t, h, h2, turn, A, B, v, d, rfl, _⟩ := h
    rfl
  · obtain ⟨r, t, h, h2, turn, A, B, v, d, rfl, hr1, ht1, hv, b0, b1, hh, ndA, ndB, lA, lB, q⟩ := h
    refine ⟨_, PSs.nox (pss_cons (ps_if (pt_not (pt_val (pe_df C_is_between hr (pa_cons (pv 2) (pa_cons pe_int (pa_cons (pe_op op_sub (pe_mm0 C_Ring_hours hr (pv 0)) pe_int) pa_nil)))))) (pss_one ps_never) pss_nil)
    (pss_cons (ps_if (PW.pt (pw_or (pt_not (pt_val (pe_callB kisD (by rfl) T.isinstance (by decide +kernel) (pa_cons (pv 3) (pa_cons (pe_tyn "dict" T.dict) pa_nil))))) (pw_or1 (pt_cmpR op_ne (pe_callB (klen K) (by rfl) T.len (by decide +kernel) (pa_cons (pv 3) pa_nil)) (pe_callB (call_ownLen C_Ring_len hr) (by rfl) T.len (by decide +kernel) (pa_cons (pv 0) pa_nil)) (nomark _))))) (pss_one (ps_ret pe_bl)) pss_nil)
    (pss_cons (ps_if (PW.pt (pw_or (pt_cmpR op_ne (pe_callB (call_ownLen C_Ring_len hr) (by rfl) T.len (by decide +kernel) (pa_cons (pv 0) pa_nil)) (pe_callB (call_ownLen C_Ring_len hr) (by rfl) T.len (by decide +kernel) (pa_cons (pv 1) pa_nil)) (nomark _)) (pw_or1 (pt_cmpR op_ne (pe_mm0 C_Ring_hours hr (pv 0)) (pe_mm0 C_Ring_hours hr (pv 1)) (nomark _))))) (pss_one (ps_ret pe_bl)) pss_nil)
    (pss_cons (ps_set (i := 4) sc_is_map.nd rfl (Or.inl rfl) pe_dnewK)
    (pss_cons (ps_for PassesOwn.never rfl (ki_list K (pe_mm0 C_Ring_names hr (pv 0))) (pg_name (i := 5) sc_is_map.nd rfl (Or.inl rfl))
      (pss_cons (ps_if (PW.pt (pw_or (pt_cmpR (op_dnotin (hu_of hr)) (pv 5) (pv 3) (by rfl)) (pw_or (pt_cmpR (op_ownNotIn C_Ring_contains hr) (pe_dget (hu_of hr) (pv 3) (pv 5) (fun _ _ => rfl)) (pv 1) (by rfl)) (pw_or1 (pt_cmpR (op_din (hu_of hr)) (pe_dget (hu_of hr) (pv 3) (pv 5) (fun _ _ => rfl)) (pv 4) (by rfl)))))) (pss_one (ps_ret pe_bl)) pss_nil)
    (pss_cons (ps_dput (hu_of hr) (pv 4) (pe_dget (hu_of hr) (pv 3) (pv 5) (fun _ _ => rfl)) pe_bl rfl)
    (pss_cons (ps_asg (pe_mm C_Ring_arc hr (pv 0) (pa_cons (pv 5) pa_nil)) (kgtup (n := 2) K rfl (pgs_cons (pg_name (i := 6) sc_is_map.nd rfl (Or.inl rfl)) (pgs_cons (pg_name (i := 7) sc_is_map.nd rfl (Or.inl rfl)) pgs_nil))))
    (pss_one (ps_if (pt_cmpR (knePair K hr) (pe_mm C_Ring_arc hr (pv 1) (pa_cons (pe_dget (hu_of hr) (pv 3) (pv 5) (fun _ _ => rfl)) pa_nil)) (pe_tup (pa_cons (pe_op op_mod (pe_op op_add (pv 6) (pv 2)) (pe_mm0 C_Ring_hours hr (pv 0))) (pa_cons (pv 7) pa_nil))) (nomark _)) (pss_one (ps_ret pe_bl)) pss_nil))))))
    (pss_one (ps_ret pe_bl))))))), ?_⟩
    walk_at "go"
    obtain ⟨_, dx, dA, eR, iA⟩ := id hr1
    obtain ⟨_, dy, dB, eT, iB⟩ := id ht1
    refine ⟨r, dx, _, rfl, eR, lk_no, ?_⟩
    walk_at "st"
    refine ⟨r, [], h, A, rfl, hr1, ?_⟩
    walk_at "st"
    refine ⟨_, 0, h - 1, [], _, rfl, .int turn, ?_⟩
    rw [show betB (.int turn) 0 (h - 1) = true by rw [betB, decide_eq_true b0, decide_eq_true (show turn ≤ h - 1 by omega)]; rfl]
    walk_at "st"
    refine ite_nb (fun hD => ?_) (fun hD => ?_)
    · walk_at "st"
      have e : isMapB h A h2 B turn d = false := by cases d <;> first | rfl | cases hD
      rw [e] at q
      exact q H (.refl _ _)
    · walk_at "st"
      cases d with
      | dict ds =>
        cases hv with
        | @dct a kvs _ na ra nda ia =>
        have q' : ∀ H', Nx [] H H' → ∀ b, b = isMapB h A h2 B turn (.dict ds) → Q (.bl b) H' := fun H' g b e => by rw [e]; exact q H' g
        have hle := ia.length
        refine ⟨_, _, rfl, .inr ⟨a, kvs, rfl, ra, rfl⟩, ?_⟩
        walk_at "st"
        refine ⟨r, dx, _, rfl, eR, r, [], h, A, rfl, hr1, _, rfl, by omega, ?_⟩
        walk_at "st"
        rw [hle]
        refine ite_n (fun h3 => ?_) (fun h3 => ?_)
        · walk_at "st"
          refine q' H (.refl _ _) _ ?_
          rw [isMapB, decide_eq_false (show ¬ ds.length = A.length by omega), Bool.false_and, Bool.false_and]
        · walk_at "st"
          refine ⟨r, dx, _, rfl, eR, r, [], h, A, rfl, hr1, _, rfl, by omega, ?_⟩
          walk_at "st"
          refine ⟨t, dy, _, rfl, eT, t, [], h2, B, rfl, ht1, _, rfl, by omega, ?_⟩
          walk_at "st"
          refine ite_n (fun h4 => ?_) (fun h4 => ?_)
          · walk_at "st"
            refine q' H (.refl _ _) _ ?_
            rw [isMapB, decide_eq_false (show ¬ A.length = B.length by omega), Bool.false_and, Bool.and_false, Bool.false_and]
          · walk_at "st"
            refine ⟨r, dx, _, rfl, eR, lk_no, ?_⟩
            walk_at "st"
            refine ⟨r, [], h, A, rfl, hr1, ?_⟩
            walk_at "st"
            refine ⟨t, dy, _, rfl, eT, lk_no, ?_⟩
            walk_at "st"
            refine ⟨t, [], h2, B, rfl, ht1, ?_⟩
            walk_at "st"
            refine ite_n (fun h5 => ?_) (fun h5 => ?_)
            · walk_at "st"
              refine q' H (.refl _ _) _ ?_
              rw [isMapB, decide_eq_false h5, Bool.and_false, Bool.and_false, Bool.false_and]
            · walk_at "st"
              intro D nD
              walk_at "st"
              have hr2 : RingR [D] (upd H D (.dK [])) C r h A := hr1.over nD (.put (by simp))
              have hr2' := hr2.sub (T := []) (by simp)
              obtain ⟨_, dx2, dA2, eR2, iA2⟩ := id hr2'
              refine ⟨r, dx2, _, rfl, eR2, lk_no, ?_⟩
              walk_at "st"
              refine ⟨r, [], h, A, rfl, hr2', lA, fun ys p hys hsort np => ?_⟩
              walk_at "st"
              have hpD : p ≠ D := fun z => by rw [z, upd_same] at np; cases np
              have np0 : H p = none := by rw [upd_ne hpD] at np; exact np
              refine ⟨p, rfl, ⟨_, .of upd_same⟩, ?_⟩
              have hyl : ys.length ≤ 40 := by rw [hys.length_eq, List.length_map]; exact lA
              have hyn : ys.Nodup := hys.nodup_iff.mpr ndA
              have qF : ∀ H', Nx [D] H H' → ∀ b, b = (ys.all (stepB h A B turn ds) && decide (ys.map (imgD ds)).Nodup) → Q (.bl b) H' := fun H' g b e => by
                refine q' H' (Nx.drop g nD) b ?_
                rw [isMap_by hys, decide_eq_true (show ds.length = A.length by omega), decide_eq_true (show A.length = B.length by omega), decide_eq_true h5, e]
                rfl
              refine for_runs (runs_list (K := K) (a := p) (xs := ys.map V.str)) (fun i σ H' => ∃ u w1 w2 kv ms, σ = [some (.ref r), some (.ref t), some (.int turn), some (.ref a), some (.ref D), u, w1, w2] ∧ Nx [D] H H' ∧ H' p = some (.lst (ys.map V.str)) ∧ H' D = some (.dK kv) ∧
                kv.map (·.1) = ms.map Sum.inr ∧ (ys.take i).map (imgD ds) = ms.map some ∧ (ys.take i).all (stepB h A B turn ds) = true ∧ ms.Nodup)
                ⟨_, _, _, [], [], rfl, (Nx.put (by simp)).trans (.new np), upd_same, by rw [upd_ne hpD.symm, upd_same], rfl, rfl, rfl, List.nodup_nil⟩ (fun i σ H' => fun ⟨_, _, _, _, _, _, _, e, _⟩ => .of e) ?_ ?_
              · rintro i σ Hx y H2 hi ⟨u, w1, w2, kv, ms, rfl, g, ep, eD, hkv, hms, hst, hnd⟩ ⟨e, ey⟩
                subst e
                rw [List.length_map] at hi
                rw [List.getElem?_map, List.getElem?_eq_getElem hi] at ey
                injection ey with ey
                subst ey
                have gN : Nx [] H H2 := Nx.drop g nD
                have hn : ys[i] ∈ ys := List.getElem_mem hi
                have hnA : ys[i] ∈ A.map (·.1) := hys.mem_iff.mp hn
                have hrI := hr1.nx gN
                have htI := ht1.nx gN
                have raI : Rd H2 a (.dK kvs) := gN.rx a _ na .d ra
                have iaI := ia.nx gN
                obtain ⟨_, dx3, dA3, eR3, iA3⟩ := id hrI
                obtain ⟨_, dy3, dB3, eT3, iB3⟩ := id htI
                walk_at "st"
                refine ⟨a, _, rfl, .inl ⟨kvs, .inr ys[i], raI, rfl, rfl⟩, ?_⟩
                rcases look_im (n := ys[i]) iaI with ⟨e1, e2⟩ | ⟨im, di, e1, e2, jm⟩
                · rw [e1]
                  walk_at "st"
                  refine ite_nf ?_
                  walk_at "st"
                  refine qF H2 g _ ?_
                  rw [map_step hn (by rw [stepB, imgD, e2]), Bool.false_and]
                · rw [e1]
                  walk_at "st"
                  refine ite_f rfl ?_
                  have dg : ∀ {H3 : Hp}, Nx [] H2 H3 → DGet H3 a (.str ys[i]) (some im) := fun {H3} g3 => .inl ⟨kvs, .inr ys[i], g3.rx a _ (by simp) .d raI, rfl, e1.symm⟩
                  walk_at "st"
                  refine ⟨a, im, rfl, dg (.refl _ _), ?_⟩
                  walk_at "st"
                  refine ⟨t, dy3, _, rfl, eT3, t, [], [], h2, B, im, di, rfl, htI, jm, _, rfl, ?_⟩
                  rw [Bool.bne_true]
                  walk_at "st"
                  refine ite_nb (fun hb => ?_) (fun hb => ?_)
                  · walk_at "st"
                    refine qF H2 g _ ?_
                    rw [map_step hn ?_, Bool.false_and]
                    rw [stepB, imgD, e2]
                    cases di <;> first | rfl | skip
                    rename_i x
                    have : decide (x ∈ B.map (·.1)) = false := hb
                    dsimp only
                    rw [this, Bool.false_and]
                  · walk_at "st"
                    cases di with
                    | str m =>
                      cases jm
                      have hmB : m ∈ B.map (·.1) := of_decide_eq_true hb
                      have himg : imgD ds ys[i] = some m := by rw [imgD, e2]
                      refine ⟨a, _, rfl, dg (.refl _ _), ?_⟩
                      walk_at "st"
                      refine ⟨D, _, rfl, .inl ⟨kv, .inr m, .inl eD, rfl, rfl⟩, ?_⟩
                      rw [key_in hkv]
                      refine s_bl ?_
                      refine ite_d (fun hm => ?_) (fun hm => ?_)
                      · walk_at "st"
                        refine qF H2 g _ ?_
                        have hin : some m ∈ (ys.take i).map (imgD ds) := by rw [hms]; exact List.mem_map_of_mem hm
                        rw [decide_eq_false (map_twice hi himg hin), Bool.and_false]
                      · walk_at "st"
                        refine ⟨a, _, rfl, dg (.refl _ _), ?_⟩
                        have hkl : kv.length = ms.length := by have := congrArg List.length hkv; simpa using this
                        have hml : ms.length ≤ 40 := by
                          have := congrArg List.length hms
                          rw [List.length_map, List.length_take, List.length_map] at this
                          omega
                        refine ⟨D, _, rfl, DPut.k (k := .inr m) eD (by rw [hkl]; exact Nat.lt_of_le_of_lt hml (by decide)), ?_⟩
                        have hkn : (Sum.inr m : Key) ∉ kv.map (·.1) := by
                          rw [hkv]
                          intro z
                          obtain ⟨y, hy, e⟩ := List.mem_map.mp z
                          injection e with e
                          rw [e] at hy
                          exact hm hy
                        rw [putK_new hkn]
                        have gD : Nx [D] H2 (upd H2 D (.dK (kv ++ [(.inr m, .bl true)]))) := .put (by simp)
                        have eD' : (upd H2 D (.dK (kv ++ [(.inr m, .bl true)]))) D = some (.dK (kv ++ [(.inr m, .bl true)])) := upd_same
                        generalize upd H2 D (.dK (kv ++ [(.inr m, .bl true)])) = H3 at gD eD'
                        have g3 : Nx [D] H H3 := g.trans gD
                        have gN3 : Nx [] H H3 := Nx.drop g3 nD
                        have hrJ := hr1.nx gN3
                        have htJ := ht1.nx gN3
                        have ra3 : Rd H3 a (.dK kvs) := gN3.rx a _ na .d ra
                        obtain ⟨_, dx5, dA5, eR5, iA5⟩ := id hrJ
                        obtain ⟨_, dy5, dB5, eT5, iB5⟩ := id htJ
                        walk_at "st"
                        refine ⟨r, dx5, _, rfl, eR5, lk_no, ?_⟩
                        walk_at "st"
                        refine ⟨r, [], h, A, _, rfl, hrJ, ndA, hnA, fun v1 i1 => ?_⟩
                        obtain ⟨p1, rfl, _, r1⟩ := i1.pair_inv
                        refine ⟨p1, _, rfl, .inl r1, rfl, ?_⟩
                        walk_at "st"
                        refine ⟨t, dy5, _, rfl, eT5, lk_no, ?_⟩
                        walk_at "st"
                        refine ⟨a, _, rfl, .inl ⟨kvs, .inr ys[i], ra3, rfl, e1.symm⟩, ?_⟩
                        refine ⟨t, [], h2, B, _, rfl, htJ, ndB, hmB, fun v2 i2 => ?_⟩
                        obtain ⟨p2, rfl, _, r2⟩ := i2.pair_inv
                        walk_at "st"
                        refine ⟨r, dx5, _, rfl, eR5, lk_no, ?_⟩
                        walk_at "st"
                        refine ⟨r, [], h, A, rfl, hrJ, ?_⟩
                        walk_at "st"
                        intro tp ntp
                        have gT : Nx [] H3 (upd H3 tp (.tup [.int (((arcOf A ys[i]).1 + turn) % h), .int (arcOf A ys[i]).2])) := .new ntp
                        refine ⟨p2, tp, _, _, _, _, rfl, rfl, .inl (gT.rx p2 _ (by simp) .t r2), .of upd_same, ?_⟩
                        have g4 := g3.trans gT.of0
                        have epT : (upd H3 tp (.tup [.int (((arcOf A ys[i]).1 + turn) % h), .int (arcOf A ys[i]).2])) p = some (.lst (ys.map V.str)) := gT.kp p _ (by simp) (gD.kp p _ (by simpa using hpD) ep)
                        have eDT := gT.kp D _ (by simp) eD'
                        generalize upd H3 tp (.tup [.int (((arcOf A ys[i]).1 + turn) % h), .int (arcOf A ys[i]).2]) = H5 at g4 epT eDT ⊢
                        rw [Bool.bne_true]
                        have hstep : stepB h A B turn ds ys[i] = decide (arcOf B m = (((arcOf A ys[i]).1 + turn) % h, (arcOf A ys[i]).2)) := by
                          rw [stepB, himg]
                          dsimp only
                          rw [decide_eq_true hmB, Bool.true_and]
                        refine s_bl ?_
                        refine ite_n (fun hx => ?_) (fun hx => ?_)
                        · walk_at "st"
                          refine qF H5 g4 _ ?_
                          have e9 : stepB h A B turn ds ys[i] = false := by rw [hstep]; exact decide_eq_false hx
                          rw [map_step hn e9, Bool.false_and]
                        · walk_at "st"
                          refine ⟨_, _, _, _, ms ++ [m], rfl, g4, epT, eDT, by rw [List.map_append, List.map_append, hkv]; rfl, ?_, ?_, ?_⟩
                          · rw [List.take_add_one, List.getElem?_eq_getElem hi, List.map_append, List.map_append, hms]
                            show _ ++ [imgD ds ys[i]] = _ ++ [some m]
                            rw [himg]
                          · rw [List.take_add_one, List.getElem?_eq_getElem hi, List.all_append, hst]
                            show (true && (stepB h A B turn ds ys[i] && true)) = true
                            rw [hstep, decide_eq_true hx]
                            rfl
                          · exact List.nodup_append.mpr ⟨hnd, by simp, fun x hx y hy z => hm (by rw [List.mem_singleton.mp hy] at z; rw [← z]; exact hx)⟩
                    | _ => cases hb
              · rintro σ H2 ⟨u, w1, w2, kv, ms, rfl, g, ep, eD, hkv, hms, hst, hnd⟩
                rw [List.length_map, List.take_of_length_le (Nat.le_refl _)] at hms hst
                walk_at "st"
                refine qF H2 g _ ?_
                rw [hst, hms, decide_eq_true]
                · rfl
                · rw [List.nodup_iff_pairwise_ne, List.pairwise_map]
                  exact (List.nodup_iff_pairwise_ne.mp hnd).imp fun hab z => hab (by injection z)
      | _ => cases hD


theorem ok_La_is_map {P : Program} {w : World} {K : PySem.W.Frag} {mg : Str → Option Value} {base : Heap} (T : Bn mg) 
    {f : Addr} {fd : FuncData} (F : FunD K "_law_a_is_map" "_law_a_is_map" (defArgs s_La_is_map) (defBody s_La_is_map) (defScope s_La_is_map) [] [] f fd) :
    FnOk P w K mg base CX0 1 f fd ["hours", "arcs", "other", "by", "thing"] (sp_La_is_map K) := by
  refine F.ok sc_La_is_map (fun vs H Q E h => ?_) (fun cdv A outer s H vs Q E hr h => ?_)
  · obtain ⟨va, vb, v, h, turn, A, B, d, rfl, _⟩ := h
    rfl
  · obtain ⟨va, vb, v, h, turn, A, B, d, rfl, ia, ib, hv, hh, ndA, ndB, lA, q⟩ := h
    refine ⟨_, PSs.nox (pss_cons (ps_if (PW.pt (pw_or (pt_not (pt_val (pe_callB kisD (by rfl) T.isinstance (by decide +kernel) (pa_cons (pv 4) (pa_cons (pe_tyn "dict" T.dict) pa_nil))))) (pw_or (pt_cmpR op_ne (pe_callB (klen K) (by rfl) T.len (by decide +kernel) (pa_cons (pv 4) pa_nil)) (pe_callB (klen K) (by rfl) T.len (by decide +kernel) (pa_cons (pv 1) pa_nil)) (nomark _)) (pw_or1 (pt_cmpR op_ne (pe_callB (klen K) (by rfl) T.len (by decide +kernel) (pa_cons (pv 1) pa_nil)) (pe_callB (klen K) (by rfl) T.len (by decide +kernel) (pa_cons (pv 2) pa_nil)) (nomark _)))))) (pss_one (ps_ret pe_bl)) pss_nil)
    (pss_cons (ps_if (pt_not (pt_val (pe_callB (kall K) (by rfl) T.all (by decide +kernel) (pa_cons (pe_lockU (pe_lc (own := [("name", 5)]) (tt := tYes) rfl sc_La_is_map.nd (pi_keys (pv 1)) (blkOk_by (N := n_La_is_map) (sc := defScope s_La_is_map) (by decide +kernel)) (fun _ _ _ _ _ => (pg_name (i := 5) sc_La_is_map.nd rfl (Or.inl rfl))) (fun _ _ _ _ _ => pts_nil) (fun _ _ _ _ _ => (pe_and (pe_cmpR (op_din (hu_of hr)) (pv 5) (pv 4) (by rfl)) (pe_and (pe_callB kisD (by rfl) T.isinstance (by decide +kernel) (pa_cons (pe_dget (hu_of hr) (pv 4) (pv 5) (fun _ _ => rfl)) (pa_cons (pe_tyn "str" T.str) pa_nil))) (pe_one (pe_cmpR (op_din (hu_of hr)) (pe_dget (hu_of hr) (pv 4) (pv 5) (fun _ _ => rfl)) (pv 2) (by rfl)))))))) pa_nil)))) (pss_one (ps_ret pe_bl)) pss_nil)
    (pss_cons (ps_if (pt_cmpR op_lt (pe_callB (klen K) (by rfl) T.len (by decide +kernel) (pa_cons (pe_callTy (kdictP K) (by rfl) T.dict (by decide +kernel) (pa_cons (pe_lockU (pe_lc (own := [("name", 5)]) (tt := tYes) rfl sc_La_is_map.nd (pi_keys (pv 1)) (blkOk_by (N := n_La_is_map) (sc := defScope s_La_is_map) (by decide +kernel)) (fun _ _ _ _ _ => (pg_name (i := 5) sc_La_is_map.nd rfl (Or.inl rfl))) (fun _ _ _ _ _ => pts_nil) (fun _ _ _ _ _ => (pe_tup (pa_cons (pe_dget (hu_of hr) (pv 4) (pv 5) (fun _ _ => rfl)) (pa_cons (pv 5) pa_nil)))))) pa_nil)) pa_nil)) (pe_callB (klen K) (by rfl) T.len (by decide +kernel) (pa_cons (pv 1) pa_nil)) (nomark _)) (pss_one (ps_ret pe_bl)) pss_nil)
    (pss_one (ps_ret (pe_callB (kall K) (by rfl) T.all (by decide +kernel) (pa_cons (pe_lockU (pe_lc (own := [("name", 5)]) (tt := tYes) rfl sc_La_is_map.nd (pi_keys (pv 1)) (blkOk_by (N := n_La_is_map) (sc := defScope s_La_is_map) (by decide +kernel)) (fun _ _ _ _ _ => (pg_name (i := 5) sc_La_is_map.nd rfl (Or.inl rfl))) (fun _ _ _ _ _ => pts_nil) (fun _ _ _ _ _ => (pe_cmpR (keqPair K hr) (pe_dget (hu_of hr) (pv 2) (pe_dget (hu_of hr) (pv 4) (pv 5) (fun _ _ => rfl)) (fun _ _ => rfl)) (pe_tup (pa_cons (pe_op op_mod (pe_op op_add (pe_ix (kx_tup K) (pe_dget (hu_of hr) (pv 1) (pv 5) (fun _ _ => rfl)) pe_int (fun _ _ => rfl)) (pv 3)) (pv 0)) (pa_cons (pe_ix (kx_tup K) (pe_dget (hu_of hr) (pv 1) (pv 5) (fun _ _ => rfl)) pe_int (fun _ _ => rfl)) pa_nil))) (nomark _))))) pa_nil))))))), ?_⟩
    walk_at "go"
    refine ite_nb (fun hD => ?_) (fun hD => ?_)
    · walk_at "st"
      have e : isMapB h A h B turn d = false := by cases d <;> first | rfl | cases hD
      rw [e] at q
      exact q H (.refl _ _)
    · walk_at "st"
      cases d with
      | dict ds =>
        cases hv with
        | @dct a kvs _ na ra nda iv =>
        cases ia with
        | @dct aA kA _ nA rA ndkA ikA =>
        cases ib with
        | @dct aB kB _ nB rB ndkB ikB =>
        have q' : ∀ H', Nx [] H H' → ∀ b, b = isMapB h A h B turn (.dict ds) → Q (.bl b) H' := fun H' g b e => by rw [e]; exact q H' g
        have hle := iv.length
        have hA := ikA.length
        have hB := ikB.length
        rw [kvsD_len] at hA hB
        refine ⟨_, _, rfl, .inr ⟨a, kvs, rfl, ra, rfl⟩, ?_⟩
        walk_at "st"
        refine ⟨_, _, rfl, .inr ⟨aA, kA, rfl, rA, rfl⟩, ?_⟩
        walk_at "st"
        rw [hle, hA]
        refine ite_n (fun h3 => ?_) (fun h3 => ?_)
        · walk_at "st"
          refine q' H (.refl _ _) _ ?_
          rw [isMapB, decide_eq_false (show ¬ ds.length = A.length by omega), Bool.false_and, Bool.false_and]
        · walk_at "st"
          refine ⟨_, _, rfl, .inr ⟨aA, kA, rfl, rA, rfl⟩, ?_⟩
          walk_at "st"
          refine ⟨_, _, rfl, .inr ⟨aB, kB, rfl, rB, rfl⟩, ?_⟩
          walk_at "st"
          rw [hA, hB]
          refine ite_n (fun h4 => ?_) (fun h4 => ?_)
          · walk_at "st"
            refine q' H (.refl _ _) _ ?_
            rw [isMapB, decide_eq_false (show ¬ A.length = B.length by omega), Bool.false_and, Bool.and_false, Bool.false_and]
          · walk_at "st"
            have qF : ∀ H', Nx [] H H' → ∀ b, b = ((A.map (·.1)).all (hasImg B ds) && (A.map (·.1)).all (arcFits h A B turn ds) && decide ((A.map (·.1)).map (imgD ds)).Nodup) → Q (.bl b) H' := fun H' g b e => by
              refine q' H' g b ?_
              rw [isMap_two, decide_eq_true (show ds.length = A.length by omega), decide_eq_true (show A.length = B.length by omega), e]
              rfl
            refine lc_keysD (S := []) rA .nil (by omega) (fun _ => rfl) (fun H' Q h => s_var rfl h) (fun i => .bool (hasImg B ds (nmAt A i))) ?_ ?_
            · intro i key v D H' Q' ek l nD alD hQ
              obtain ⟨x, ex, rfl, jx⟩ := arcs_at ikA ek
              rw [nmAt_of ex] at hQ
              have ra' : Rd H' a (.dK kvs) := l.rx a _ (by simp) .d ra
              have rB' : Rd H' aB (.dK kB) := l.rx aB _ (by simp) .d rB
              have iv' := iv.rx l.rx
              have ikB' := ikB.rx l.rx
              walk_at "st"
              refine ⟨a, _, rfl, .inl ⟨kvs, .inr x.1, ra', rfl, rfl⟩, ?_⟩
              refine s_bl ?_
              rcases look_im (n := x.1) iv' with ⟨e1, e2⟩ | ⟨im, di, e1, e2, jm⟩
              · rw [e1]
                refine ite_f rfl ?_
                exact hQ _ H' (by rw [hasImg, imgD, e2]; exact .bl false) (.refl _ _)
              · rw [e1]
                refine ite_t rfl ?_
                walk_at "st"
                refine ⟨a, im, rfl, .inl ⟨kvs, .inr x.1, ra', rfl, e1.symm⟩, ?_⟩
                walk_at "st"
                refine ite_b (fun hs => ?_) (fun hs => ?_)
                · cases di with
                  | str m =>
                    cases jm
                    walk_at "st"
                    refine ⟨a, _, rfl, .inl ⟨kvs, .inr x.1, ra', rfl, e1.symm⟩, ?_⟩
                    walk_at "st"
                    refine ⟨aB, _, rfl, .inl ⟨kB, .inr m, rB', rfl, rfl⟩, ?_⟩
                    rw [has_key ikB']
                    exact hQ _ H' (by rw [hasImg, imgD, e2]; exact .bl _) (.refl _ _)
                  | _ => cases hs
                · walk_at "st"
                  refine hQ _ H' ?_ (.refl _ _)
                  rw [hasImg, imgD, e2]
                  cases di <;> first | exact .bl false | cases hs
            · intro D acc bs H1 nD eD hl hf im g1
              walk_at "st"
              have hbs : bs = ((A.map (·.1)).map (hasImg B ds)).map PyData.bool := by
                rw [List.map_map]
                exact by_names (F := PyData.bool ∘ hasImg B ds) (by omega) hl hf
              subst hbs
              have hacc := im.bools_inv
              subst hacc
              refine ⟨D, _, rfl, .of eD, ?_⟩
              rw [List.all_map]
              walk_at "st"
              have ra1 : Rd H1 a (.dK kvs) := g1.rx a _ (by simp) .d ra
              have rA1 : Rd H1 aA (.dK kA) := g1.rx aA _ (by simp) .d rA
              have rB1 : Rd H1 aB (.dK kB) := g1.rx aB _ (by simp) .d rB
              have iv1 := iv.nx g1
              have ikA1 := ikA.nx g1
              have ikB1 := ikB.nx g1
              refine ite_nb (fun hc => ?_) (fun hc => ?_)
              · walk_at "st"
                refine qF H1 g1 _ ?_
                have : (A.map (·.1)).all (hasImg B ds) = false := hc
                rw [this, Bool.false_and, Bool.false_and]
              · walk_at "st"
                have hc : (A.map (·.1)).all (hasImg B ds) = true := hc
                have hcm : ∀ n ∈ A.map (·.1), ∃ m, imgD ds n = some m ∧ m ∈ B.map (·.1) := fun n hn => by
                  have := List.all_eq_true.mp hc n hn
                  unfold hasImg at this
                  cases e : imgD ds n with
                  | none => rw [e] at this; cases this
                  | some m => rw [e] at this; exact ⟨m, rfl, of_decide_eq_true this⟩
                -- the value that stands for a name
                have hval : ∀ {H' : Hp} {n : Str}, ImKv [] H' kvs ds → n ∈ A.map (·.1) → ∃ m, imgD ds n = some m ∧ m ∈ B.map (·.1) ∧ valV kvs (.inr n) = some (.str m) := fun {H' n} ik hn => by
                  obtain ⟨m, e, hm⟩ := hcm n hn
                  rcases look_im (n := n) ik with ⟨e1, e2⟩ | ⟨im, di, e1, e2, jm⟩
                  · rw [imgD, e2] at e; cases e
                  · rw [imgD, e2] at e
                    cases di <;> first | cases e | skip
                    cases jm
                    exact ⟨_, by rw [imgD, e2], hm, e1⟩
                have hmemA : ∀ {i : Nat} {x : Str × Int × Int}, A[i]? = some x → x.1 ∈ A.map (·.1) := fun e => List.mem_map_of_mem (List.mem_of_getElem? e)
                refine lc_keysD (S := []) rA1 .nil (by omega) (fun _ => rfl) (fun H' Q h => s_var rfl h) (fun i => .tuple [.str ((imgD ds (nmAt A i)).getD (Str.ofString "")), .str (nmAt A i)]) ?_ ?_
                · intro i key v D2 H' Q' ek l nD2 alD hQ
                  obtain ⟨x, ex, rfl, jx⟩ := arcs_at ikA1 ek
                  rw [nmAt_of ex] at hQ
                  have ra' : Rd H' a (.dK kvs) := l.rx a _ (by simp) .d ra1
                  obtain ⟨m, em, hmB, ev⟩ := hval (iv1.rx l.rx) (hmemA ex)
                  rw [em, Option.getD_some] at hQ
                  walk_at "st"
                  refine ⟨a, _, rfl, .inl ⟨kvs, .inr x.1, ra', rfl, ev.symm⟩, ?_⟩
                  walk_at "st"
                  intro t nt
                  exact hQ _ _ (.tup (alD.ne nt) (.inl upd_same) (.cons (.str m) (.cons (.str x.1) .nil))) (.new nt)
                · intro D2 acc2 bs2 H3 nD2 eD2 hl2 hf2 im2 g2
                  walk_at "st"
                  have hbs2 : bs2 = ((A.map (·.1)).map fun n => ((PyData.str ((imgD ds n).getD (Str.ofString ""))), PyData.str n)).map fun p => PyData.tuple [p.1, p.2] := by
                    rw [List.map_map]
                    exact by_names (F := fun n => PyData.tuple [PyData.str ((imgD ds n).getD (Str.ofString "")), PyData.str n]) (by omega) hl2 hf2
                  subst hbs2
                  obtain ⟨ps, kv2, eacc, pr, ik2⟩ := im2.pairs_inv (fun p hp => by
                    obtain ⟨n, hn, rfl⟩ := List.mem_map.mp hp
                    exact ⟨.inr _, rfl⟩)
                  subst eacc
                  refine ⟨D2, ps, kv2, rfl, .of eD2, L2.Paired.mapP pr fun p kv r => .inl r, fun p np => ?_⟩
                  walk_at "st"
                  have g3 : Nx [] H1 (upd H3 p (.dK (mergeK [] kv2))) := g2.newP np
                  refine ⟨_, _, rfl, .inr ⟨p, _, rfl, .inl upd_same, rfl⟩, ?_⟩
                  walk_at "st"
                  refine ⟨_, _, rfl, .inr ⟨aA, kA, rfl, g3.rx aA _ (by simp) .d rA1, rfl⟩, ?_⟩
                  have hk2 : kv2.map (·.1) = ((A.map (·.1)).map fun n => (imgD ds n).getD (Str.ofString "")).map Sum.inr := by
                    refine kD_map ?_
                    have e1 := ik2.keys
                    rw [List.map_map, List.map_map]
                    show (kv2.map fun kv => kD kv.1) = _
                    rw [← e1]
                    simp only [List.map_map]
                    rfl
                  have hl3 : kv2.length = A.length := by have := ik2.length; simp only [List.length_map] at this; exact this
                  have hnd : (kv2.map (·.1)).Nodup ↔ ((A.map (·.1)).map (imgD ds)).Nodup := by
                    have e1 : ((A.map (·.1)).map fun n => (imgD ds n).getD (Str.ofString "")).map some = (A.map (·.1)).map (imgD ds) := by
                      rw [List.map_map]
                      refine List.map_congr_left fun n hn => ?_
                      obtain ⟨m, e, _⟩ := hcm n hn
                      show some ((imgD ds n).getD _) = imgD ds n
                      rw [e]; rfl
                    rw [hk2, ← e1]
                    exact (nodup_inj (f := (Sum.inr : Str → Key)) (fun a b z => by injection z)).trans (nodup_inj (f := (some : Str → Option Str)) (fun a b z => by injection z)).symm
                  have g4 : Nx [] H (upd H3 p (.dK (mergeK [] kv2))) := g1.trans g3
                  generalize upd H3 p (.dK (mergeK [] kv2)) = H5 at g3 g4 ⊢
                  walk_at "st"
                  refine ite_d (fun hlt => ?_) (fun hlt => ?_)
                  · walk_at "st"
                    refine qF H5 g4 _ ?_
                    have : ¬ ((A.map (·.1)).map (imgD ds)).Nodup := fun z => by
                      rw [merge_nil (hnd.mpr z)] at hlt
                      omega
                    rw [decide_eq_false this, Bool.and_false]
                  · walk_at "st"
                    have hnd2 : ((A.map (·.1)).map (imgD ds)).Nodup := hnd.mp (Classical.byContradiction fun z => by
                      have := merge_lt kv2 [] List.nodup_nil (by simpa using z)
                      simp only [List.length_nil] at this
                      omega)
                    have ra5 : Rd H5 a (.dK kvs) := g4.rx a _ (by simp) .d ra
                    have rA5 : Rd H5 aA (.dK kA) := g4.rx aA _ (by simp) .d rA
                    have rB5 : Rd H5 aB (.dK kB) := g4.rx aB _ (by simp) .d rB
                    have iv5 := iv.nx g4
                    have ikA5 := ikA.nx g4
                    have ikB5 := ikB.nx g4
                    refine lc_keysD (S := []) rA5 .nil (by omega) (fun _ => rfl) (fun H' Q h => s_var rfl h) (fun i => .bool (arcFits h A B turn ds (nmAt A i))) ?_ ?_
                    · intro i key v D4 H' Q' ek l nD4 alD hQ
                      obtain ⟨x, ex, rfl, jx⟩ := arcs_at ikA5 ek
                      rw [nmAt_of ex] at hQ
                      have ra' : Rd H' a (.dK kvs) := l.rx a _ (by simp) .d ra5
                      have rA' : Rd H' aA (.dK kA) := l.rx aA _ (by simp) .d rA5
                      have rB' : Rd H' aB (.dK kB) := l.rx aB _ (by simp) .d rB5
                      obtain ⟨m, em, hmB, ev⟩ := hval (iv5.rx l.rx) (hmemA ex)
                      obtain ⟨v1, ev1, i1⟩ := arcs_get ndB (ikB5.rx l.rx) hmB
                      obtain ⟨v2, ev2, i2⟩ := arcs_get ndA (ikA5.rx l.rx) (hmemA ex)
                      obtain ⟨p1, rfl, _, r1⟩ := i1.pair_inv
                      obtain ⟨p2, rfl, _, r2⟩ := i2.pair_inv
                      walk_at "st"
                      refine ⟨a, _, rfl, .inl ⟨kvs, .inr x.1, ra', rfl, ev.symm⟩, ?_⟩
                      refine ⟨aB, _, rfl, .inl ⟨kB, .inr m, rB', rfl, ev1.symm⟩, ?_⟩
                      walk_at "st"
                      refine ⟨aA, _, rfl, .inl ⟨kA, .inr x.1, rA', rfl, ev2.symm⟩, ?_⟩
                      walk_at "st"
                      refine s_ixt (.inl r2) (atI_at (j := 0) rfl rfl) ?_
                      walk_at "st"
                      refine ⟨aA, _, rfl, .inl ⟨kA, .inr x.1, rA', rfl, ev2.symm⟩, ?_⟩
                      walk_at "st"
                      refine s_ixt (.inl r2) (atI_at (j := 1) rfl rfl) ?_
                      walk_at "st"
                      intro t nt
                      refine ⟨p1, t, _, _, _, _, rfl, rfl, .inl ((Nx.new (S := []) nt).rx p1 _ (by simp) .t r1), .of upd_same, ?_⟩
                      rw [Bool.bne_false]
                      refine hQ _ _ ?_ (.new nt)
                      rw [arcFits, em]
                      exact .bl _
                    · intro D4 acc4 bs4 H6 nD4 eD4 hl4 hf4 im4 g6
                      walk_at "st"
                      have hbs : bs4 = ((A.map (·.1)).map (arcFits h A B turn ds)).map PyData.bool := by
                        rw [List.map_map]
                        exact by_names (F := PyData.bool ∘ arcFits h A B turn ds) (by omega) hl4 hf4
                      subst hbs
                      have hacc := im4.bools_inv
                      subst hacc
                      refine ⟨D4, _, rfl, .of eD4, ?_⟩
                      rw [List.all_map]
                      refine qF H6 (g4.trans g6) _ ?_
                      rw [hc, decide_eq_true hnd2, Bool.true_and, Bool.and_true]
                      rfl
      | _ => cases hD


theorem ok_La_moved {P : Program} {w : World} {K : PySem.W.Frag} {mg : Str → Option Value} {base : Heap} (T : Bn mg)
    (C_Lw_names : Df P w K mg base CX0 4 "_law_w_names" ["spring", "many"] (sp_Lw_names K))
    (C_Lmixed : Df P w K mg base CX0 2 "_law_mixed" ["spring", "some"] (sp_Lmixed K)) 
    {f : Addr} {fd : FuncData} (F : FunD K "_law_a_moved" "_law_a_moved" (defArgs s_La_moved) (defBody s_La_moved) (defScope s_La_moved) [] [] f fd) :
    FnOk P w K mg base CX0 5 f fd ["spring", "hours", "arcs", "by"] (sp_La_moved K) := by
  refine F.ok sc_La_moved (fun vs H Q E h => ?_) (fun cdv A outer s H vs Q E hr h => ?_)
  · obtain ⟨s, va, h, turn, A, S, n, rfl, _⟩ := h
    rfl
  · obtain ⟨s, va, h, turn, A, S, n, rfl, hsS, al, ia, hs, hn, ok, hh, lA, q⟩ := h
    refine ⟨_, PSs.nox (pss_cons (ps_set (i := 4) sc_La_moved.nd rfl (Or.inl rfl) (pe_df C_Lw_names hr (pa_cons (pv 0) (pa_cons (pe_callB (klen K) (by rfl) T.len (by decide +kernel) (pa_cons (pv 2) pa_nil)) pa_nil))))
    (pss_cons (ps_set (i := 5) sc_La_moved.nd rfl (Or.inr rfl) (pe_dictzip K rfl (by rfl) T.dict (by rfl) T.zip (pa_cons (pe_callB (call_sortedD rfl) (by rfl) T.sorted (by decide +kernel) (pa_cons (pv 2) pa_nil)) (pa_cons (pv 4) pa_nil))))
    (pss_one (ps_ret (pe_tup (pa_cons (pe_callTy (kdictP K) (by rfl) T.dict (by decide +kernel) (pa_cons (pe_lc (own := [("name", 6)]) (tt := tYes) rfl sc_La_moved.nd (ki_list K (pe_df C_Lmixed hr (pa_cons (pv 0) (pa_cons (pe_callB (call_sortedD rfl) (by rfl) T.sorted (by decide +kernel) (pa_cons (pv 2) pa_nil)) pa_nil)))) (blkOk_by (N := n_La_moved) (sc := defScope s_La_moved) (by decide +kernel)) (fun _ _ _ _ _ => (pg_name (i := 6) sc_La_moved.nd rfl (Or.inl rfl))) (fun _ _ _ _ _ => pts_nil) (fun _ _ _ _ _ => (pe_tup (pa_cons (pe_dget (hu_of hr) (pv 5) (pv 6) (fun _ _ => rfl)) (pa_cons (pe_tup (pa_cons (pe_op op_mod (pe_op op_add (pe_ix (kx_tup K) (pe_dget (hu_of hr) (pv 2) (pv 6) (fun _ _ => rfl)) pe_int (fun _ _ => rfl)) (pv 3)) (pv 1)) (pa_cons (pe_ix (kx_tup K) (pe_dget (hu_of hr) (pv 2) (pv 6) (fun _ _ => rfl)) pe_int (fun _ _ => rfl)) pa_nil))) pa_nil))))) pa_nil)) (pa_cons (pv 5) pa_nil))))))), ?_⟩
    walk_at "go"
    cases ia with
    | @dct a kA _ na rA ndkA ikA =>
    have hA := ikA.length
    rw [kvsD_len] at hA
    have hsub : ∀ x ∈ [s], x ∈ S := by simpa using hsS
    refine ⟨_, _, rfl, .inr ⟨a, kA, rfl, rA, rfl⟩, ?_⟩
    walk_at "st"
    refine ⟨s, n, kA.length, rfl, hs, by omega, by omega, fun p0 ns H1 np0 hl0 hok0 nd0 e0 g0 hs1 => ?_⟩
    have ikA1 := ikA.nx (g0.mono hsub)
    have rA1 : Rd H1 a (.dK kA) := (g0.mono hsub).rx a _ na .d rA
    walk_at "st"
    refine ⟨a, kA, _, rfl, rA1, kvs_keys ikA1, by rw [List.length_map]; omega, fun xs p1 hp1 hso1 np1 => ?_⟩
    walk_at "st"
    have e01 : (upd H1 p1 (.lst (xs.map V.str))) p0 = some (.lst (ns.map V.str)) := by rw [upd_ne (ne_of_none e0 np1)]; exact e0
    have hxl : xs.length = ns.length := by rw [hp1.length_eq, List.length_map, hl0]; omega
    refine ⟨p1, p0, xs, ns.map V.str, rfl, .of upd_same, .of e01, by rw [List.length_map]; exact hxl, fun F nF => ?_⟩
    have g1 : Nx [] H1 (upd H1 p1 (.lst (xs.map V.str))) := .new np1
    have hxn : xs.Nodup := hp1.nodup_iff.mpr ok.nd
    have hz1 : (xs.zip ns).map (·.1) = xs := zip_fst hxl
    have hz2 : (xs.zip ns).map (·.2) = ns := zip_snd hxl
    have hkF : ((xs.map (Sum.inr : Str → Key)).zip (ns.map V.str)).map (·.1) = xs.map Sum.inr := zip_fst (by rw [List.length_map, List.length_map]; exact hxl)
    rw [merge_nil (by rw [hkF]; exact inr_nodup hxn)]
    have g2 : Nx [] H1 (upd (upd H1 p1 (.lst (xs.map V.str))) F (.dK ((xs.map (Sum.inr : Str → Key)).zip (ns.map V.str)))) := g1.newP nF
    have gA : Nx [s] H (upd (upd H1 p1 (.lst (xs.map V.str))) F (.dK ((xs.map (Sum.inr : Str → Key)).zip (ns.map V.str)))) := g0.trans g2.of0
    have nF0 : H F = none := g0.fresh (g1.fresh nF)
    have eF : (upd (upd H1 p1 (.lst (xs.map V.str))) F (.dK ((xs.map (Sum.inr : Str → Key)).zip (ns.map V.str)))) F = some (.dK ((xs.map (Sum.inr : Str → Key)).zip (ns.map V.str))) := upd_same
    have hs2 := hs1.nx g2 (by simp)
    generalize upd (upd H1 p1 (.lst (xs.map V.str))) F (.dK ((xs.map (Sum.inr : Str → Key)).zip (ns.map V.str))) = H2 at g2 gA eF hs2 ⊢
    have ikA2 := ikA.nx (gA.mono hsub)
    have rA2 : Rd H2 a (.dK kA) := (gA.mono hsub).rx a _ na .d rA
    walk_at "st"
    refine ⟨a, kA, _, rfl, rA2, kvs_keys ikA2, by rw [List.length_map]; omega, fun ys p3 hp3 hso3 np3 => ?_⟩
    walk_at "st"
    have g3 : Nx [] H2 (upd H2 p3 (.lst (ys.map V.str))) := .new np3
    have hp3s : p3 ≠ s := fun z => hs2.al (by rw [← z]; exact np3)
    refine ⟨s, p3, _, ys.map V.str, rfl, hs2.nx g3 (by simp), by omega, .of upd_same, hp3s, by rw [List.length_map, hp3.length_eq, List.length_map]; omega, fun p4 vs4 H4 np4 hp4 e4 g4 hs4 => ?_⟩
    obtain ⟨zs, hpz, rfl⟩ := perm_of_map hp4
    have hpz2 : zs.Perm (A.map (·.1)) := hpz.trans hp3
    have hzl : zs.length ≤ 40 := by rw [hpz2.length_eq, List.length_map]; exact lA
    have gB : Nx [s] H2 H4 := g3.of0.trans g4
    have hFs : F ≠ s := fun z => hs.al (by rw [← z]; exact nF0)
    have eF4 : H4 F = some (.dK ((xs.map (Sum.inr : Str → Key)).zip (ns.map V.str))) := gB.kp F _ (by simpa using hFs) eF
    have gC : Nx [s] H H4 := gA.trans gB
    have ikA4 := ikA.nx (gC.mono hsub)
    have rA4 : Rd H4 a (.dK kA) := (gC.mono hsub).rx a _ na .d rA
    have al4 : Al S H4 := al.mono gC
    have ikF : ∀ {T : List Addr} {H' : Hp}, ImKv T H' ((xs.map (Sum.inr : Str → Key)).zip (ns.map V.str)) (strsKv (xs.zip ns)) := imkv_zip
    walk_at "st"
    refine ⟨p4, rfl, ⟨_, .of e4⟩, fun D nD => ?_⟩
    refine lc_data (T := []) (S := S) (runs_list (K := K) (a := p4) (xs := zs.map V.str)) (by rw [List.length_map]; omega) nD al4 (by simp) (fun _ _ => True) trivial (fun _ _ _ _ => trivial)
      (fun i d => ∃ z, zs[i]? = some z ∧ d = .tuple [.str (mapOf (xs.zip ns) z), arcD (((arcOf A z).1 + turn) % h, (arcOf A z).2)]) (fun H' g => .inl (g.rx p4 _ (by simpa using ne_of_none e4 nD) .l (.inl e4))) ?_ ?_ gName_mono
    · rintro i Hx x H5 hi g5 alD - ⟨e, ex⟩
      subst e
      rw [List.length_map] at hi
      rw [List.getElem?_map, List.getElem?_eq_getElem hi] at ex
      injection ex with ex
      subst ex
      refine ⟨rfl, fun Q' hq => ?_⟩
      have hzA : zs[i] ∈ A.map (·.1) := hpz2.mem_iff.mp (List.getElem_mem hi)
      have hzX : zs[i] ∈ (xs.zip ns).map (·.1) := by rw [hz1]; exact hp1.mem_iff.mpr hzA
      have g6 : Nx [] H4 H5 := g5.drop nD
      have ikA5 := ikA4.nx g6.of0
      have rA5 : Rd H5 a (.dK kA) := (Nx.rx (S := S) g6.of0) a _ na .d rA4
      have eF5 : H5 F = some (.dK ((xs.map (Sum.inr : Str → Key)).zip (ns.map V.str))) := g6.kp F _ (by simp) eF4
      obtain ⟨v2, ev2, i2⟩ := arcs_get ok.nd ikA5 hzA
      obtain ⟨p2, rfl, _, r2⟩ := i2.pair_inv
      walk_at "st"
      refine ⟨F, _, rfl, .inl ⟨_, .inr zs[i], .inl eF5, rfl, (strs_get (S := []) (H := H5) ikF hzX).symm⟩, ?_⟩
      walk_at "st"
      refine ⟨a, _, rfl, .inl ⟨kA, .inr zs[i], rA5, rfl, ev2.symm⟩, ?_⟩
      walk_at "st"
      refine s_ixt (.inl r2) (atI_at (j := 0) rfl rfl) ?_
      walk_at "st"
      refine ⟨a, _, rfl, .inl ⟨kA, .inr zs[i], rA5, rfl, ev2.symm⟩, ?_⟩
      walk_at "st"
      refine s_ixt (.inl r2) (atI_at (j := 1) rfl rfl) ?_
      walk_at "st"
      intro t1 nt1
      walk_at "st"
      intro t2 nt2
      have h12 : t1 ≠ t2 := fun z => by rw [← z, upd_same] at nt2; cases nt2
      have nt20 : H5 t2 = none := by rw [upd_ne h12.symm] at nt2; exact nt2
      refine hq _ _ _ ⟨zs[i], List.getElem?_eq_getElem hi, rfl⟩ ?_ ((Nx.new nt1).newP nt2) trivial
      refine .tup (alD.ne nt20) (.inl upd_same) (.cons (.str _) (.cons ?_ .nil))
      show Im _ _ _ (arcD (((arcOf A zs[i]).1 + turn) % h, (arcOf A zs[i]).2))
      exact Im.pair (alD.ne nt1) (by rw [upd_ne h12, upd_same])
    · rintro H5 acc ds eD hl hf im g5 -
      rw [List.length_map] at hl hf
      walk_at "st"
      have hds : ds = (kvsD (movedA h turn A (xs.zip ns) zs)).map fun p => PyData.tuple [p.1, p.2] := by
        have : ∀ i, i < zs.length → ds[i]? = some ((fun z => PyData.tuple [.str (mapOf (xs.zip ns) z), arcD (((arcOf A z).1 + turn) % h, (arcOf A z).2)]) (zs.getD i (Str.ofString ""))) := fun i hi => by
          obtain ⟨d, ed, z, ez, rfl⟩ := hf i hi
          rw [ed, List.getD_eq_getElem?_getD, ez]; rfl
        rw [list_by hl this]
        refine (map_by rfl (fun z => PyData.tuple [.str (mapOf (xs.zip ns) z), arcD (((arcOf A z).1 + turn) % h, (arcOf A z).2)]) _ fun i x e => ?_).trans ?_
        · rw [List.getD_eq_getElem?_getD, e]; rfl
        · unfold kvsD movedA
          rw [List.map_map, List.map_map]; rfl
      subst hds
      have okM : ArcsOk h (movedA h turn A (xs.zip ns) zs) := moved_ok ok hh (by rw [hz1]; exact hp1) (by rw [hz2]; exact nd0) (fun p hp => hok0 p.2 (by rw [← hz2]; exact List.mem_map_of_mem hp)) hpz2
      have gD : Nx [s] H H5 := gC.trans g5.of0
      refine s_dictP (S := S) (.inl eD) im.tail (fun p hp => ?_) ?_ (al.mono gD) (fun o H6 kv6 no noS g6 eo ndo io => ?_)
      · unfold kvsD at hp
        obtain ⟨z, hz, rfl⟩ := List.mem_map.mp hp
        exact ⟨.inr _, rfl⟩
      · have := okM.nd
        unfold kvsD
        rw [List.map_map]
        rw [show ((fun x : PyData × PyData => x.1) ∘ fun a : Str × Int × Int => (PyData.str a.1, arcD a.2)) = (PyData.str ∘ fun a => a.1) from rfl, ← List.map_map]
        exact (nodup_inj (f := PyData.str) (fun a b z => by injection z)).mpr this
      · walk_at "st"
        intro t nt
        have gE : Nx [s] H H6 := gD.trans g6.of0
        have eF6 : H6 F = some (.dK ((xs.map (Sum.inr : Str → Key)).zip (ns.map V.str))) := (g5.trans g6).kp F _ (by simp) eF4
        have ot : o ≠ t := ne_of_none eo nt
        have tS : t ∉ S := (al.mono gE).ne nt
        have gT : Nx [] H6 (upd H6 t (.tup [.ref o, .ref F])) := .new nt
        refine q t o F (xs.zip ns) zs _ upd_same tS (by rw [hz1]; exact hp1) (by rw [hz2]; exact nd0) (fun p hp => hok0 p.2 (by rw [← hz2]; exact List.mem_map_of_mem hp)) hpz2 ?_ ?_ (gE.trans gT.of0) ?_
        · exact .dct noS (.inl (gT.kp o _ (by simp) eo)) ndo (io.tail.nx gT.of0)
        · exact .dct (al.ne nF0) (.inl (gT.kp F _ (by simp) eF6)) (by rw [hkF]; exact inr_nodup hxn) ikF
        · have hlz : (ys.map V.str).length ≤ 40 := by rw [List.length_map, hp3.length_eq, List.length_map]; exact lA
          exact (((hs4.nx g5 (by simp)).nx g6 (by simp)).nx gT (by simp)).le (by omega)


theorem ok_La_drawn {P : Program} {w : World} {K : PySem.W.Frag} {mg : Str → Option Value} {base : Heap} (T : Bn mg)
    (C_Lr_drawn : Df P w K mg base CX0 5 "_law_r_drawn" ["spring", "many"] (sp_Lr_drawn K))
    (C_Ldraw : Df P w K mg base CX0 1 "_law_draw" ["spring", "many"] (sp_Ldraw K))
    (C_Lpick : Df P w K mg base CX0 2 "_law_pick" ["spring", "some"] (sp_Lpick K))
    (C_Lw_names : Df P w K mg base CX0 4 "_law_w_names" ["spring", "many"] (sp_Lw_names K)) 
    {f : Addr} {fd : FuncData} (F : FunD K "_law_a_drawn" "_law_a_drawn" (defArgs s_La_drawn) (defBody s_La_drawn) (defScope s_La_drawn) [] [] f fd) :
    FnOk P w K mg base CX0 6 f fd ["spring", "many"] (sp_La_drawn K) := by
  refine F.ok sc_La_drawn (fun vs H Q E h => ?_) (fun cdv A outer s H vs Q E hr h => ?_)
  · obtain ⟨s, n, m, S, rfl, _⟩ := h
    rfl
  · obtain ⟨s, n, m, S, rfl, hs, hn, hm, hsS, al, q⟩ := h
    refine ⟨_, PSs.nox (pss_cons (ps_asg (pe_df C_Lr_drawn hr (pa_cons (pv 0) (pa_cons (pv 1) pa_nil))) (kgtup (n := 2) K rfl (pgs_cons (pg_name (i := 2) sc_La_drawn.nd rfl (Or.inr rfl)) (pgs_cons (pg_name (i := 3) sc_La_drawn.nd rfl (Or.inr rfl)) pgs_nil))))
    (pss_cons (ps_if (pt_cmpR op_gt (pv 2) pe_int (nomark _)) (pss_one (ps_asg (pe_tup (pa_cons pe_int (pa_cons (pe_callTy (kdictP K) (by rfl) T.dict (by decide +kernel) (pa_cons (pe_lockU (pe_lc (own := [("name", 7)]) (tt := tYes) rfl sc_La_drawn.nd (pi_keys (pv 3)) (blkOk_by (N := n_La_drawn) (sc := defScope s_La_drawn) (by decide +kernel)) (fun _ _ _ _ _ => (pg_name (i := 7) sc_La_drawn.nd rfl (Or.inl rfl))) (fun _ _ _ _ _ => pts_nil) (fun _ _ _ _ _ => (pe_tup (pa_cons (pv 7) (pa_cons (pe_tup (pa_cons (pe_op op_mod (pe_ix (kx_tup K) (pe_dget (hu_of hr) (pv 3) (pv 7) (fun _ _ => rfl)) pe_int (fun _ _ => rfl)) pe_int) (pa_cons (pe_op op_add pe_int (pe_op op_mod (pe_ix (kx_tup K) (pe_dget (hu_of hr) (pv 3) (pv 7) (fun _ _ => rfl)) pe_int (fun _ _ => rfl)) pe_int)) pa_nil))) pa_nil)))))) pa_nil)) pa_nil))) (kgtup (n := 2) K rfl (pgs_cons (pg_name (i := 2) sc_La_drawn.nd rfl (Or.inr rfl)) (pgs_cons (pg_name (i := 3) sc_La_drawn.nd rfl (Or.inr rfl)) pgs_nil))))) pss_nil)
    (pss_cons (ps_setLc (i := 4) (own := [("part", 5)]) rfl sc_La_drawn.nd rfl rfl (sw_true rfl rfl rfl (by decide +kernel)) (ki_list K (pe_lst (pa_cons pe_int (pa_cons pe_int (pa_cons pe_int pa_nil))))) (blkOk_by (N := n_La_drawn) (sc := defScope s_La_drawn) (by decide +kernel)) (fun _ _ _ _ _ => (pg_name (i := 5) sc_La_drawn.nd rfl (Or.inl rfl))) (fun _ _ _ _ _ => pts_one (PW.pt (pw_and (pt_cmpR op_eq (pe_op op_mod (pv 2) (pv 5)) pe_int (nomark _)) (pw_and1 (pt_cmpR op_lt (pe_op op_mul (pe_callB (klen K) (by rfl) T.len (by decide +kernel) (pa_cons (pv 3) pa_nil)) (pv 5)) pe_int (nomark _)))))) (fun _ _ _ _ _ => (pv 5)))
    (pss_cons (ps_if (PW.pt (pw_and (kt_truth K (pv 4) (by intro _; rfl)) (pw_and1 (pt_cmpR op_eq (pe_df C_Ldraw hr (pa_cons (pv 0) (pa_cons pe_int pa_nil))) pe_int (nomark _))))) (pss_cons (ps_set (i := 5) sc_La_drawn.nd rfl (Or.inr rfl) (pe_df C_Lpick hr (pa_cons (pv 0) (pa_cons (pv 4) pa_nil))))
    (pss_cons (ps_set (i := 6) sc_La_drawn.nd rfl (Or.inl rfl) (pe_lst pa_nil))
    (pss_cons (ps_for PassesOwn.never rfl (ki_list K (pe_callB (call_sortedD rfl) (by rfl) T.sorted (by decide +kernel) (pa_cons (pv 3) pa_nil))) (pg_name (i := 7) sc_La_drawn.nd rfl (Or.inr rfl))
      (pss_one (ps_set (i := 6) sc_La_drawn.nd rfl (Or.inl rfl) (pe_op op_cat (pv 6) (pe_lc (own := [("k", 11)]) (tt := tYes) rfl sc_La_drawn.nd (pi_range1 (by rfl) T.range (pa_cons (pv 5) pa_nil)) (blkOk_by (N := n_La_drawn) (sc := defScope s_La_drawn) (by decide +kernel)) (fun _ _ _ _ _ => (pg_name (i := 11) sc_La_drawn.nd rfl (Or.inl rfl))) (fun _ _ _ _ _ => pts_nil) (fun _ _ _ _ _ => (pe_tup (pa_cons (pe_op op_mod (pe_op op_add (pe_ix (kx_tup K) (pe_dget (hu_of hr) (pv 3) (pv 7) (fun _ _ => rfl)) pe_int (fun _ _ => rfl)) (pe_op op_fdiv (pe_op op_mul (pv 11) (pv 2)) (pv 5))) (pv 2)) (pa_cons (pe_ix (kx_tup K) (pe_dget (hu_of hr) (pv 3) (pv 7) (fun _ _ => rfl)) pe_int (fun _ _ => rfl)) pa_nil)))))))))
    (pss_cons (ps_set (i := 8) sc_La_drawn.nd rfl (Or.inr rfl) (pe_df C_Lw_names hr (pa_cons (pv 0) (pa_cons (pe_callB (klen K) (by rfl) T.len (by decide +kernel) (pa_cons (pv 6) pa_nil)) pa_nil))))
    (pss_one (ps_set (i := 3) sc_La_drawn.nd rfl (Or.inr rfl) (pe_callTy (kdictP K) (by rfl) T.dict (by decide +kernel) (pa_cons (pe_lc (own := [("at", 9), ("pair", 10)]) (tt := tYes) rfl sc_La_drawn.nd (ki_enum K (by rfl) T.enumerate (pa_cons (pv 6) pa_nil)) (blkOk_by (N := n_La_drawn) (sc := defScope s_La_drawn) (by decide +kernel)) (fun _ _ _ _ _ => (kgtup (n := 2) K rfl (pgs_cons (pg_name (i := 9) sc_La_drawn.nd rfl (Or.inl rfl)) (pgs_cons (pg_name (i := 10) sc_La_drawn.nd rfl (Or.inl rfl)) pgs_nil)))) (fun _ _ _ _ _ => pts_nil) (fun _ _ _ _ _ => (pe_tup (pa_cons (pe_ix (kx_list K) (pv 8) (pv 9) (fun _ _ => rfl)) (pa_cons (pv 10) pa_nil))))) pa_nil)))))))) pss_nil)
    (pss_one (ps_ret (pe_tup (pa_cons (pv 2) (pa_cons (pv 3) pa_nil))))))))), ?_⟩
    walk_at "go"
    have hsub : ∀ x ∈ [s], x ∈ S := by simpa using hsS
    apply join3 (fun (h : Int) (a : Addr) (H3 : Hp) => ∃ A : Arcs, 1 ≤ h ∧ h ≤ 99 ∧ Im S H3 (.ref a) (arcsD A) ∧ ArcsOk h A ∧ A.length = m ∧ Nx [s] H H3 ∧ Spr H3 s (n + 160))
    case h1 =>
      intro k
      refine ⟨s, n, m, S, rfl, hs, by omega, by omega, hsS, al, fun t a h A H1 nt et h1 h2 na0 ia ok hA g1 hs1 => ?_⟩
      refine ⟨t, _, rfl, .of et, rfl, ?_⟩
      walk_at "st"
      refine ite_d ?p1 ?p2
      case p2 =>
        intro h3
        walk_at "st"
        exact k h a H1 ⟨A, h1, by omega, ia, ok, hA, g1, hs1.le (by omega)⟩
      case p1 =>
        intro h3
        have al1 := al.mono g1
        walk_at "st"
        cases ia with
        | @dct _ kA _ na rA ndkA ikA =>
        have hlk := ikA.length
        rw [kvsD_len] at hlk
        refine lc_keysD (S := S) rA al1 (by omega) (fun _ => rfl) (fun H' Q h => s_var rfl h) (fun i => .tuple [.str (nmAt A i), arcD ((arcOf A (nmAt A i)).1 % 60, 1 + (arcOf A (nmAt A i)).2 % 60)]) ?_ ?_
        · intro i key v D H' Q' ek l nD alD hQ
          obtain ⟨x, ex, rfl, jx⟩ := arcs_at ikA ek
          rw [nmAt_of ex] at hQ
          have rA' : Rd H' a (.dK kA) := l.rx a _ (by simp) .d rA
          obtain ⟨v2, ev2, i2⟩ := arcs_get ok.nd (ikA.rx l.rx.mono0) (List.mem_map_of_mem (f := (·.1)) (List.mem_of_getElem? ex))
          obtain ⟨p2, rfl, _, r2⟩ := i2.pair_inv
          walk_at "st"
          refine ⟨a, _, rfl, .inl ⟨kA, .inr x.1, rA', rfl, ev2.symm⟩, ?_⟩
          walk_at "st"
          refine s_ixt (.inl r2) (atI_at (j := 0) rfl rfl) ?_
          walk_at "st"
          refine ⟨a, _, rfl, .inl ⟨kA, .inr x.1, rA', rfl, ev2.symm⟩, ?_⟩
          walk_at "st"
          refine s_ixt (.inl r2) (atI_at (j := 1) rfl rfl) ?_
          walk_at "st"
          intro t1 nt1
          walk_at "st"
          intro t2 nt2
          have h12 : t1 ≠ t2 := fun z => by rw [← z, upd_same] at nt2; cases nt2
          have nt20 : H' t2 = none := by rw [upd_ne h12.symm] at nt2; exact nt2
          refine hQ _ _ ?_ ((Nx.new nt1).newP nt2)
          refine .tup (alD.ne nt20) (.inl upd_same) (.cons (.str _) (.cons ?_ .nil))
          exact Im.pair (alD.ne nt1) (by rw [upd_ne h12, upd_same])
        · intro D acc ds H2 nD eD hl hf im g2
          walk_at "st"
          have hds : ds = (kvsD (A.map fun a => (a.1, a.2.1 % 60, 1 + a.2.2 % 60))).map fun p => PyData.tuple [p.1, p.2] := by
            rw [arcs_pairs, List.map_map]
            refine map_get (by omega) fun i x e => ?_
            rw [hf i (by have := (List.getElem?_eq_some_iff.mp e).1; omega), nmAt_of e, arcOf_mem ok.nd (List.mem_of_getElem? e)]
            rfl
          subst hds
          have hn2 : (A.map fun a => (a.1, a.2.1 % 60, 1 + a.2.2 % 60)).map (·.1) = A.map (·.1) := by rw [List.map_map]; rfl
          have ok2 : ArcsOk 60 (A.map fun a => (a.1, a.2.1 % 60, 1 + a.2.2 % 60)) := by
            refine ⟨fun a ha => ?_, by rw [hn2]; exact ok.nd, fun a ha => ?_, fun a ha => ?_⟩ <;> obtain ⟨x, hx, rfl⟩ := List.mem_map.mp ha
            · exact ok.names x hx
            · exact ⟨Int.emod_nonneg _ (by omega), Int.emod_lt_of_pos _ (by omega)⟩
            · have a1 := Int.emod_nonneg x.2.2 (b := 60) (by omega)
              have a2 := Int.emod_lt_of_pos x.2.2 (b := 60) (by omega)
              show 1 ≤ 1 + x.2.2 % 60 ∧ 1 + x.2.2 % 60 ≤ 60
              omega
          refine s_dictArcs (S := S) (.inl eD) im.tail ok2.nd (al1.mono g2) (fun o H3 no noS g3 eo io => ?_)
          walk_at "st"
          intro t2 nt2
          refine s_gtupN rfl ?_
          walk_at "st"
          have gT : Nx [] H3 (upd H3 t2 (.tup [.int 60, .ref o])) := .new nt2
          have g4 : Nx [] H1 (upd H3 t2 (.tup [.int 60, .ref o])) := (g2.trans g3).trans gT
          exact k 60 o _ ⟨_, by omega, by omega, io.nx gT.of0, ok2, by rw [List.length_map]; exact hA, g1.trans g4.of0, (hs1.nx g4 (by simp)).le (by omega)⟩
    case h2 =>
      rintro h a H1 ⟨A, h1, h2, ia, ok, hA, g1, hs1⟩
      have al1 := al.mono g1
      have fin : ∀ (o : Addr) (B : Arcs) (H' : Hp), Im S H' (.ref o) (arcsD B) → ArcsOk h B → B.length ≤ 40 → Nx [s] H H' → Spr H' s (n + 1000) → ∀ t, H' t = none → Q (.ref t) (upd H' t (.tup [.int h, .ref o])) := fun o B H' io okB lB g hs' t nt =>
        q t o h B _ upd_same ((al.mono g).ne nt) h1 h2 (io.nx (.new nt)) okB lB (g.newP nt) (hs'.nx (S := []) (.new nt) (by simp))
      walk_at "st"
      intro p np
      have gp : Nx [] H1 (upd H1 p (.lst [.int 2, .int 3, .int 4])) := .new np
      have ep : (upd H1 p (.lst [.int 2, .int 3, .int 4])) p = some (.lst [.int 2, .int 3, .int 4]) := upd_same
      generalize upd H1 p (.lst [.int 2, .int 3, .int 4]) = H2 at gp ep ⊢
      have ia2 := ia.nx gp.of0
      refine ⟨p, rfl, ⟨_, .of ep⟩, fun D nD => ?_⟩
      cases ia2 with
      | @dct _ kA _ na rA ndkA ikA =>
      have hlk := ikA.length
      rw [kvsD_len] at hlk
      have hpD := ne_of_none ep nD
      have haD : a ≠ D := fun z => rd_some rA (by rw [z]; exact nD)
      refine lc_runs (runs_list (K := K) (a := p) (xs := [.int 2, .int 3, .int 4])) (fun i H' => ∃ ps : List Int, H' D = some (.lst (ps.map V.int)) ∧ (∀ x ∈ ps, 2 ≤ x ∧ x ≤ 4 ∧ (A.length : Int) * x < 41) ∧ ps.length ≤ i ∧ Nx [D] H2 H') ⟨[], upd_same, by simp, Nat.le_refl _, .put (by simp)⟩ (fun i H' => fun ⟨_, _, _, _, g⟩ => .inl (g.rx p _ (by simpa using hpD) .l (.inl ep))) ?_ ?_
      · rintro i Hx x H3 hi ⟨ps, eD, hps, hpl, g3⟩ ⟨e, ex⟩
        subst e
        obtain ⟨v, rfl, v1, v2⟩ : ∃ v : Int, x = .int v ∧ 2 ≤ v ∧ v ≤ 4 := by
          have := List.mem_of_getElem? ex
          simp at this
          rcases this with e | e | e <;> exact ⟨_, e, by omega, by omega⟩
        have rA3 : Rd H3 a (.dK kA) := g3.rx a _ (by simpa using haD) .d rA
        have hi3 : i < 3 := hi
        have hbig : ps.length < sizeLine := Nat.lt_of_lt_of_le (show ps.length < 100 by omega) (by decide)
        walk_at "st"
        refine ⟨rfl, ?_⟩
        walk_at "st"
        refine ite_d (fun hz => ?_) (fun hz => ?_)
        · walk_at "st"
          refine ⟨_, _, rfl, .inr ⟨a, kA, rfl, rA3, rfl⟩, ?_⟩
          walk_at "st"
          refine ite_d (fun hlt => ?_) (fun hlt => ?_)
          · walk_at "st"
            refine ⟨_, eD, by rw [List.length_map]; exact hbig, ps ++ [v], by rw [upd_same, List.map_append]; rfl, fun y hy => ?_, by rw [List.length_append]; simp; omega, g3.trans (.put (by simp))⟩
            rcases List.mem_append.mp hy with hy | hy
            · exact hps y hy
            · rw [List.mem_singleton.mp hy]
              exact ⟨v1, v2, by rw [hlk] at hlt; exact hlt⟩
          · exact ⟨ps, eD, hps, by omega, g3⟩
        · exact ⟨ps, eD, hps, by omega, g3⟩
      · rintro H3 ⟨ps, eD, hps, hpl, g3⟩
        have hpl : ps.length ≤ 3 := hpl
        have nD1 : H1 D = none := gp.fresh nD
        have gA : Nx [] H1 H3 := Nx.drop (gp.of0.trans g3) nD1
        have ia3 := ia.nx gA.of0
        have hs3 := hs1.nx gA (by simp)
        have g03 : Nx [s] H H3 := g1.trans gA.of0
        walk_at "st"
        refine ⟨_, .inl (.inl ⟨_, .of eD, rfl⟩), ?_⟩
        refine ite_b (fun hne => ?_) (fun hne => ?_)
        · walk_at "st"
          refine ⟨s, _, 2, rfl, hs3, by omega, by omega, by omega, fun r H4 r0 r1 g4 hs4 => ?_⟩
          walk_at "st"
          have hDs : D ≠ s := fun z => hs1.al (by rw [← z]; exact nD1)
          have eD4 : H4 D = some (.lst (ps.map V.int)) := g4.kp D _ (by simpa using hDs) eD
          refine ite_d (fun hr0 => ?_) (fun hr0 => ?_)
          · walk_at "st"
            have hp0 : 0 < (ps.map V.int).length := by
              cases ps with
              | nil => cases hne
              | cons x r => simp
            refine ⟨s, D, _, _, rfl, hs4, by omega, .of eD4, hDs, hp0, by rw [List.length_map]; omega, fun pv H5 hpv g5 hs5 => ?_⟩
            obtain ⟨pt, hpt, rfl⟩ := List.mem_map.mp hpv
            obtain ⟨b1, b2, b3⟩ := hps pt hpt
            have g45 : Nx [s] H3 H5 := g4.trans g5
            have g05 : Nx [s] H H5 := g03.trans g45
            have al5 := al.mono g05
            have ia5 := ia3.nx (g45.mono hsub)
            walk_at "st"
            intro P0 nP0
            walk_at "st"
            have gP : Nx [] H5 (upd H5 P0 (.lst [])) := .new nP0
            have eP0 : (upd H5 P0 (.lst [])) P0 = some (.lst []) := upd_same
            have P0S : P0 ∉ S := al5.ne nP0
            generalize upd H5 P0 (.lst []) = H6 at gP eP0 ⊢
            have ia6 := ia5.nx gP.of0
            cases ia6 with
            | @dct _ kB _ nb rB ndkB ikB =>
            refine ⟨a, kB, _, rfl, rB, kvs_keys ikB, by rw [List.length_map]; omega, fun ys p2 hys hso np2 => ?_⟩
            walk_at "st"
            have hyl : ys.length = A.length := by rw [hys.length_eq, List.length_map]
            refine ⟨p2, rfl, ⟨_, .of upd_same⟩, ?_⟩
            have gp2 : Nx [] H6 (upd H6 p2 (.lst (ys.map V.str))) := .new np2
            have al6 : Al S H6 := al5.mono gP
            refine for_runs (runs_list (K := K) (a := p2) (xs := ys.map V.str)) (fun i σ H' => ∃ u P vs ws, σ = [some (.ref s), some (.int m), some (.int h), some (.ref a), some (.ref D), some (.int pt), some (.ref P), u, none, none, none, none] ∧ Nx [] H6 H' ∧ H' p2 = some (.lst (ys.map V.str)) ∧
              P ∉ S ∧ H' P = some (.lst vs) ∧ ImAll S H' vs (ws.map arcD) ∧ PairsOk h ws ∧ (ws.length : Int) = i * pt)
              ⟨_, P0, [], [], rfl, gp2, upd_same, P0S, gp2.kp P0 _ (by simp) eP0, .nil, fun w hw => by simp at hw, by simp⟩ (fun i σ H' => fun ⟨_, _, _, _, _, _, e, _⟩ => .of e) ?_ ?_
            · rintro i σ Hx x H7 hi ⟨u, P, vs, ws, rfl, g7, ep2, PS, eP, iws, hws, hwl⟩ ⟨e, ex⟩
              subst e
              rw [List.length_map] at hi
              rw [List.getElem?_map, List.getElem?_eq_getElem hi] at ex
              injection ex with ex
              subst ex
              have al7 : Al S H7 := al6.mono g7
              have ikB7 := ikB.nx g7.of0
              have rB7 : Rd H7 a (.dK kB) := (Nx.rx (S := S) g7.of0) a _ nb .d rB
              have hyA : ys[i] ∈ A.map (·.1) := hys.mem_iff.mp (List.getElem_mem hi)
              obtain ⟨xa, hxa, exa⟩ := List.mem_map.mp hyA
              have hla : 1 ≤ (arcOf A ys[i]).2 ∧ (arcOf A ys[i]).2 ≤ h := by rw [← exa, arcOf_mem ok.nd hxa]; exact ok.ln xa hxa
              walk_at "st"
              refine ⟨pt, rfl, by omega, by omega, fun D2 nD2 => ?_⟩
              refine lc_data (T := []) (S := S) runs_range (by omega) nD2 al7 (by simp) (fun _ _ => True) trivial (fun _ _ _ _ => trivial)
                (fun i d => ∃ w : Int × Int, d = arcD w ∧ (0 ≤ w.1 ∧ w.1 < h) ∧ (1 ≤ w.2 ∧ w.2 ≤ h)) (fun _ _ => trivial) ?_ ?_ gName_mono
              · rintro j Hx v H8 hj g8 alD - ⟨e, ev⟩
                subst e
                subst ev
                refine ⟨rfl, fun Q' hq => ?_⟩
                have g9 : Nx [] H7 H8 := g8.drop nD2
                have ikB8 := ikB7.nx g9.of0
                have rB8 : Rd H8 a (.dK kB) := (Nx.rx (S := S) g9.of0) a _ nb .d rB7
                obtain ⟨v2, ev2, i2⟩ := arcs_get ok.nd ikB8 hyA
                obtain ⟨p3, rfl, _, r3⟩ := i2.pair_inv
                walk_at "st"
                refine ⟨a, _, rfl, .inl ⟨kB, .inr ys[i], rB8, rfl, ev2.symm⟩, ?_⟩
                walk_at "st"
                refine s_ixt (.inl r3) (atI_at (j := 0) rfl rfl) ?_
                walk_at "st"
                refine ⟨a, _, rfl, .inl ⟨kB, .inr ys[i], rB8, rfl, ev2.symm⟩, ?_⟩
                walk_at "st"
                refine s_ixt (.inl r3) (atI_at (j := 1) rfl rfl) ?_
                walk_at "st"
                intro t1 nt1
                refine hq _ _ _ ⟨(_, _), rfl, ⟨Int.emod_nonneg _ (by omega), Int.emod_lt_of_pos _ (by omega)⟩, hla⟩ (Im.pair (alD.ne nt1) upd_same) (.new nt1) trivial
              · rintro H8 acc ds eD2 hl hf im g8 -
                walk_at "st"
                obtain ⟨ws2, hds, hw2⟩ := all_map (P := fun w : Int × Int => (0 ≤ w.1 ∧ w.1 < h) ∧ (1 ≤ w.2 ∧ w.2 ≤ h)) (by_mem hl hf)
                subst hds
                rw [List.length_map] at hl
                have eP8 : H8 P = some (.lst vs) := g8.kp P _ (by simp) eP
                have hvl := iws.length
                rw [List.length_map] at hvl
                have hal := im.length
                rw [List.length_map] at hal
                have hwi : (ws.length : Int) ≤ 40 * 4 := by
                  rw [hwl]
                  have h1 : (i : Int) ≤ 40 := by omega
                  have h2 := Int.mul_le_mul h1 b2 (by omega) (by omega)
                  exact h2
                refine ⟨P, D2, vs, acc, rfl, rfl, eP8, eD2, Nat.le_trans (show vs.length + acc.length ≤ 1000 by omega) (by decide), fun P2 nP2 => ?_⟩
                have gn : Nx [] H8 (upd H8 P2 (.lst (vs ++ acc))) := .new nP2
                have g9 : Nx [] H7 (upd H8 P2 (.lst (vs ++ acc))) := g8.trans gn
                walk_at "st"
                refine ⟨_, P2, _, ws ++ ws2, rfl, g7.trans g9, g9.kp p2 _ (by simp) ep2, (al7.mono g8).ne nP2, upd_same, ?_, fun w hw => (List.mem_append.mp hw).elim (hws w) (hw2 w), ?_⟩
                · rw [List.map_append]
                  exact (iws.nx g9.of0).append (im.tail.nx gn.of0)
                · rw [List.length_append, Int.natCast_add, hwl, hl, Int.natCast_add, Int.add_mul]
                  have : ((pt.toNat : Nat) : Int) = pt := Int.toNat_of_nonneg (by omega)
                  rw [this]
                  simp
            · rintro σ H7 ⟨u, P, vs, ws, rfl, g7, ep2, PS, eP, iws, hws, hwl⟩
              rw [List.length_map] at hwl
              walk_at "st"
              have hvl := iws.length
              rw [List.length_map] at hvl
              have hw40 : (ws.length : Int) < 41 := by rw [hwl, hyl]; exact b3
              refine ⟨_, _, rfl, .inl (len_l (.of eP)), ?_⟩
              walk_at "st"
              have g7' : Nx [s] H H7 := (g05.trans gP.of0).trans g7.of0
              have hs7 : Spr H7 s (n + 162) := (hs5.nx gP (by simp)).nx g7 (by simp)
              refine ⟨s, n + 162, vs.length, rfl, hs7, by omega, by omega, fun p4 xs H8 np4 hl4 hok4 nd4 e4 g8 hs8 => ?_⟩
              walk_at "st"
              have al8 : Al S H8 := (al.mono g7').mono g8
              have PS' : P ≠ s := fun z => PS (by rw [z]; exact hsS)
              have eP8 : H8 P = some (.lst vs) := g8.kp P _ (by simpa using PS') eP
              refine ⟨P, vs, rfl, .of eP8, fun D3 nD3 => ?_⟩
              have hPD := ne_of_none eP8 nD3
              refine lc_data (T := []) (S := S) (runs_enum (K := K) (a := P) (xs := vs)) (by omega) nD3 al8 (by simp) (fun _ _ => True) trivial (fun _ _ _ _ => trivial)
                (fun i d => ∃ x w, xs[i]? = some x ∧ ws[i]? = some w ∧ d = .tuple [.str x, arcD w]) (fun H' g => .inl (g.rx P _ (by simpa using hPD) .l (.inl eP8))) ?_ ?_ gTup2_mono
              · rintro i H9 x H10 hi g9 alD - ⟨T, v, rfl, nT, rfl, ev⟩
                have hix : i < xs.length := by omega
                have ex : xs[i]? = some xs[i] := List.getElem?_eq_getElem hix
                have hpD3 := ne_of_none e4 nD3
                have e49 : H9 p4 = some (.lst (xs.map V.str)) := g9.kp p4 _ (by simpa using hpD3) e4
                obtain ⟨dw, edw, iw⟩ := (iws.nx (g8.mono hsub)).at_ ev
                rw [List.getElem?_map] at edw
                have hiw : i < ws.length := by omega
                rw [List.getElem?_eq_getElem hiw] at edw
                injection edw with edw
                refine s_gtupN rfl ?_
                walk_at "st"
                refine ⟨rfl, fun Q' hq => ?_⟩
                walk_at "st"
                have e410 : (upd H9 T (.tup [.int (i : Nat), v])) p4 = some (.lst (xs.map V.str)) := by rw [upd_ne (ne_of_none e49 nT)]; exact e49
                refine s_ixl (v := .str xs[i]) (.of e410) (atI_at (j := i) (by rw [List.getElem?_map, ex]; rfl) rfl) ?_
                walk_at "st"
                intro t2 nt2
                have gt : Nx [] H9 (upd (upd H9 T (.tup [.int (i : Nat), v])) t2 (.tup [.str xs[i], v])) := (Nx.new nT).newP nt2
                have nt20 : H9 t2 = none := (Nx.new (S := []) nT).fresh nt2
                have iw9 : Im (D3 :: S) H9 v dw := iw.over nD3 (g9.mono (by simp))
                exact hq _ _ _ ⟨xs[i], ws[i], ex, List.getElem?_eq_getElem hiw, rfl⟩ (.tup (alD.ne nt20) (.inl upd_same) (.cons (.str _) (.cons (by rw [edw]; exact iw9.nx gt.of0) .nil))) gt trivial
              · rintro H9 acc ds eD3 hl hf im g9 -
                walk_at "st"
                have hzl : (xs.zip ws).length = vs.length := by rw [List.length_zip]; omega
                have hds : ds = (kvsD (xs.zip ws)).map fun p => PyData.tuple [p.1, p.2] := by
                  rw [arcs_pairs]
                  refine map_get (by omega) fun i x e => ?_
                  obtain ⟨d, ed, x1, w1, e1, e2, rfl⟩ := hf i (by have := (List.getElem?_eq_some_iff.mp e).1; omega)
                  rw [List.getElem?_zip_eq_some] at e
                  rw [e1] at e
                  rw [e2] at e
                  obtain ⟨h1, h2⟩ := e
                  injection h1 with h1
                  injection h2 with h2
                  rw [ed, h1, h2]
                subst hds
                have okB : ArcsOk h (xs.zip ws) := zip_ok (by omega) hok4 nd4 hws
                refine s_dictArcs (S := S) (.inl eD3) im.tail okB.nd (al8.mono g9) (fun o H10 no noS g10 eo io => ?_)
                walk_at "st"
                exact fin o (xs.zip ws) H10 io okB (by omega) ((g7'.trans g8).trans (g9.trans g10).of0) (((hs8.nx g9 (by simp)).nx g10 (by simp)).le (by omega))
          · walk_at "st"
            exact fin a A H4 (ia3.nx (g4.mono hsub)) ok (by omega) (g03.trans g4) (hs4.le (by omega))
        · walk_at "st"
          exact fin a A H3 ia3 ok (by omega) g03 (hs3.le (by omega))


theorem ok_La_bent {P : Program} {w : World} {K : PySem.W.Frag} {mg : Str → Option Value} {base : Heap} (T : Bn mg)
    (C_Ldraw : Df P w K mg base CX0 1 "_law_draw" ["spring", "many"] (sp_Ldraw K))
    (C_Lpick : Df P w K mg base CX0 2 "_law_pick" ["spring", "some"] (sp_Lpick K)) 
    {f : Addr} {fd : FuncData} (F : FunD K "_law_a_bent" "_law_a_bent" (defArgs s_La_bent) (defBody s_La_bent) (defScope s_La_bent) [] [] f fd) :
    FnOk P w K mg base CX0 3 f fd ["spring", "found", "other"] (sp_La_bent K) := by
  refine F.ok sc_La_bent (fun vs H Q E h => ?_) (fun cdv A outer s H vs Q E hr h => ?_)
  · obtain ⟨s, f, vo, ps, S, n, rfl, _⟩ := h
    rfl
  · obtain ⟨s, f, vo, ps, S, n, rfl, hsS, al, iF, h1, h2, nd, hl, hs, hn, q⟩ := h
    refine ⟨_, PSs.nox (pss_cons (ps_parG2 (i1 := 3) (i2 := 4) rfl sc_La_bent.nd rfl rfl (by decide) (Or.inl rfl) (Or.inl rfl) (pa_cons (pe_callTy kdictD (by rfl) T.dict (by decide +kernel) (pa_cons (pv 1) pa_nil)) (pa_cons (pe_df C_Ldraw hr (pa_cons (pv 0) (pa_cons pe_int pa_nil))) pa_nil)) (by rfl))
    (pss_cons (ps_if (PW.pt (pw_or (pt_not (kt_truth K (pv 3) (by intro _; rfl))) (pw_or1 (pt_cmpR op_eq (pv 4) pe_int (nomark _))))) (pss_one (ps_ret (pe_df C_Lpick hr (pa_cons (pv 0) (pa_cons (pe_lst (pa_cons pe_non (pa_cons pe_int (pa_cons pe_str (pa_cons (pe_lst pa_nil) (pa_cons (pe_litems rfl (pv 1) (by rfl) T.list) (pa_cons pe_dnewK (pa_cons (pe_disp (pps_cons pe_str pe_str pps_nil) (by rfl) (by rfl) (fun z => by cases z) (by decide)) pa_nil)))))))) pa_nil))))) pss_nil)
    (pss_cons (ps_parG2 (i1 := 5) (i2 := 6) rfl sc_La_bent.nd rfl rfl (by decide) (Or.inl rfl) (Or.inl rfl) (pa_cons (pe_df C_Lpick hr (pa_cons (pv 0) (pa_cons (pe_callB (call_sortedD rfl) (by rfl) T.sorted (by decide +kernel) (pa_cons (pv 3) pa_nil)) pa_nil))) (pa_cons (pe_df C_Lpick hr (pa_cons (pv 0) (pa_cons (pe_callB (call_sortedD rfl) (by rfl) T.sorted (by decide +kernel) (pa_cons (pv 3) pa_nil)) pa_nil))) pa_nil)) (by rfl))
    (pss_cons (ps_if (pt_cmpR op_eq (pv 4) pe_int (nomark _)) (pss_one (ps_expr (pe_dpop1 (pv 3) (pv 5) ⟨rfl, rfl, rfl, rfl⟩))) (pss_one (ps_if (pt_cmpR op_eq (pv 4) pe_int (nomark _)) (pss_one (ps_dput (hu_of hr) (pv 3) pe_str (pe_dget (hu_of hr) (pv 3) (pv 5) (fun _ _ => rfl)) rfl)) (pss_one (ps_if (pt_cmpR op_eq (pv 4) pe_int (nomark _)) (pss_one (ps_dput (hu_of hr) (pv 3) (pv 5) (pe_df C_Lpick hr (pa_cons (pv 0) (pa_cons (pe_lst (pa_cons pe_str (pa_cons pe_non (pa_cons pe_int (pa_cons (pe_lst (pa_cons (pe_dget (hu_of hr) (pv 3) (pv 5) (fun _ _ => rfl)) pa_nil)) (pa_cons pe_dnewK (pa_cons pe_str pa_nil))))))) pa_nil))) rfl)) (pss_one (ps_if (pt_cmpR op_eq (pv 4) pe_int (nomark _)) (pss_one (ps_dput (hu_of hr) (pv 3) (pv 5) (pe_dget (hu_of hr) (pv 3) (pv 6) (fun _ _ => rfl)) rfl)) (pss_one (ps_asg (pe_tup (pa_cons (pe_dget (hu_of hr) (pv 3) (pv 6) (fun _ _ => rfl)) (pa_cons (pe_dget (hu_of hr) (pv 3) (pv 5) (fun _ _ => rfl)) pa_nil))) (kgtup (n := 2) K rfl (pgs_cons (pg_sub (pv 3) (pv 5) (set_dict (hu_of hr))) (pgs_cons (pg_sub (pv 3) (pv 6) (set_dict (hu_of hr))) pgs_nil))))))))))))
    (pss_one (ps_ret (pv 3))))))), ?_⟩
    walk_at "go"
    have hsub : ∀ x ∈ [s], x ∈ S := by simpa using hsS
    cases iF with
    | @dct _ kF _ nf rF ndF ikF =>
    have hlk := ikF.length
    have hlk2 : kF.length = ps.length := by rw [hlk]; unfold strsKv; rw [List.length_map]
    have hkeys : kF.map (·.1) = (ps.map (·.1)).map Sum.inr := by
      refine kD_map ?_
      have e1 := ikF.keys
      rw [List.map_map, List.map_map]
      show (kF.map fun kv => kD kv.1) = _
      rw [← e1]
      unfold strsKv
      rw [List.map_map]; rfl
    refine ⟨f, kF, rfl, rF, fun p np => ?_⟩
    have g1 : Nx [] H (upd H p (.dK kF)) := .new np
    have ep : (upd H p (.dK kF)) p = some (.dK kF) := upd_same
    have pS : p ∉ S := al.ne np
    have hs1 := hs.nx g1 (by simp)
    generalize upd H p (.dK kF) = H1 at g1 ep hs1 ⊢
    have hps : p ≠ s := fun z => pS (by rw [z]; exact hsS)
    walk_at "st"
    refine ⟨s, n, 8, rfl, hs1, by omega, by omega, by omega, fun way H2 w0 w1 g2 hs2 => ?_⟩
    have gA : Nx [s] H H2 := g1.of0.trans g2
    have ep2 : H2 p = some (.dK kF) := g2.kp p _ (by simpa using hps) ep
    have al2 : Al S H2 := al.mono gA
    have ikF2 : ImKv (p :: S) H2 kF (strsKv ps) := by
      refine ImKv.nx (gA.mono (fun x hx => List.mem_cons_of_mem _ (hsub x hx))) (ImKv.sub (fun a ha => (List.mem_cons.mp ha).elim (fun z => .inr (by rw [z]; exact np)) .inl) _ ikF)
    have ents := strs_ent h1 h2
    have fin : ∀ (kv : List (Key × V)) (ds : List (PyData × PyData)) (H' : Hp), H' p = some (.dK kv) → (kv.map (·.1)).Nodup → ImKv (p :: S) H' kv ds → (∀ q ∈ ds, Ent q) → ds.length ≤ 42 → Nx [s] H H' → Spr H' s (n + 10) → Q (.ref p) H' := fun kv ds H' e ndk ik he hd g hs' =>
      q _ _ H' (.dct pS (.inl e) ndk ik.tail) (ents_ok he (by omega)) g hs'
    have rF2 : Rd H2 f (.dK kF) := (gA.mono hsub).rx f _ nf .d rF
    walk_at "st"
    refine ⟨_, .inr ⟨p, kF, rfl, .inl ep2, rfl⟩, ?_⟩
    apply join0
    case h1 =>
      intro hA
      refine ite_nb (fun he => ?_) (fun he => ?_)
      · walk_at "st"
        exact hA
      · walk_at "st"
        refine ite_d (fun hw => ?_) (fun hw => ?_)
        · walk_at "st"
          exact hA
        · walk_at "st"
          have hne : 0 < ps.length := by
            rw [← hlk2]
            cases kF with
            | nil => cases he
            | cons x r => simp
          refine ⟨p, kF, _, rfl, .inl ep2, hkeys, by rw [List.length_map]; omega, fun ys p1 hy1 hso1 np1 => ?_⟩
          have g3 : Nx [] H2 (upd H2 p1 (.lst (ys.map V.str))) := .new np1
          have hp1s : p1 ≠ s := fun z => hs2.al (by rw [← z]; exact np1)
          have hyl : ys.length = ps.length := by rw [hy1.length_eq, List.length_map]
          walk_at "st"
          refine ⟨s, p1, _, ys.map V.str, rfl, hs2.nx g3 (by simp), by omega, .of upd_same, hp1s, by rw [List.length_map]; omega, by rw [List.length_map]; omega, fun x H3 hx g4 hs3 => ?_⟩
          obtain ⟨nm, hnm, rfl⟩ := List.mem_map.mp hx
          have hnm := hy1.mem_iff.mp hnm
          have gB : Nx [s] H2 H3 := g3.of0.trans g4
          have ep3 : H3 p = some (.dK kF) := gB.kp p _ (by simpa using hps) ep2
          walk_at "st"
          refine ⟨p, kF, _, rfl, .inl ep3, hkeys, by rw [List.length_map]; omega, fun ys2 p2 hy2 hso2 np2 => ?_⟩
          have g5 : Nx [] H3 (upd H3 p2 (.lst (ys2.map V.str))) := .new np2
          have hp2s : p2 ≠ s := fun z => hs3.al (by rw [← z]; exact np2)
          have hyl2 : ys2.length = ps.length := by rw [hy2.length_eq, List.length_map]
          walk_at "st"
          refine ⟨s, p2, _, ys2.map V.str, rfl, hs3.nx g5 (by simp), by omega, .of upd_same, hp2s, by rw [List.length_map]; omega, by rw [List.length_map]; omega, fun x H4 hx g6 hs4 => ?_⟩
          obtain ⟨tw, htw, rfl⟩ := List.mem_map.mp hx
          have htw := hy2.mem_iff.mp htw
          have gC : Nx [s] H2 H4 := gB.trans (g5.of0.trans g6)
          have ep4 : H4 p = some (.dK kF) := gC.kp p _ (by simpa using hps) ep2
          have gD : Nx [s] H H4 := gA.trans gC
          have ik4 : ImKv (p :: S) H4 kF (strsKv ps) := ikF2.nx (gC.mono (fun x hx => List.mem_cons_of_mem _ (hsub x hx)))
          have en := strs_get ik4 hnm
          have et := strs_get ik4 htw
          have hln : (strsKv ps).length ≤ 40 := by unfold strsKv; rw [List.length_map]; exact hl
          have hbig : ∀ {k : List (Key × V)}, k.length ≤ 50 → k.length < sizeLine := fun h => Nat.lt_of_le_of_lt h (by decide)
          -- a value put at a key
          have put : ∀ (x : Str) (v : V) (d : PyData) (H5 : Hp), x.length ≤ 8 → okR (.str x) = true → Okv d → H5 p = some (.dK kF) → ImKv (p :: S) H5 kF (strsKv ps) → Im (p :: S) H5 v d → Nx [s] H H5 → Spr H5 s (n + 10) → Q (.ref p) (upd H5 p (.dK (L2.putK kF (.inr x) v))) := fun x v d H5 hx ox od e5 ik5 iv g5 hs5 => by
            obtain ⟨ds', i1, i2, i3, i4⟩ := ik5.putK (k := .inr x) iv ndF
            have gp : Nx (p :: S) H5 (upd H5 p (.dK (L2.putK kF (.inr x) v))) := .put List.mem_cons_self
            have gp' : Nx [p] H5 (upd H5 p (.dK (L2.putK kF (.inr x) v))) := .put (by simp)
            refine fin _ ds' _ upd_same i4 (i1.nx gp) (fun q hq => ?_) (by omega) ?_ (hs5.nx gp' (by simpa using hps.symm))
            · rcases i2 q hq with z | z
              · exact ents q z
              · exact ⟨x, by rw [z]; rfl, hx, ox, by rw [z]; exact od⟩
            · exact Nx.drop ((g5.mono (by simp)).trans (gp'.mono (by simp))) np
          have okn : ∀ {x : Str}, x ∈ ps.map (·.1) → x.length ≤ 8 ∧ okR (.str x) = true := fun hx => by
            obtain ⟨q, hq, rfl⟩ := List.mem_map.mp hx
            exact ⟨(h1 q hq).hi, nm_okR (h1 q hq)⟩
          walk_at "st"
          refine ite_d (fun hw1 => ?_) (fun hw1 => ?_)
          · walk_at "st"
            refine s_var rfl ⟨p, rfl, .inl ⟨_, .inl ep4⟩, ?_⟩
            walk_at "st"
            refine ⟨kF, .inr nm, _, ep4, rfl, en, ?_⟩
            walk_at "st"
            obtain ⟨ds', i1, i2, i3⟩ := ik4.dropK (k := .inr nm)
            have gp : Nx (p :: S) H4 (upd H4 p (.dK (L2.dropK kF (.inr nm)))) := .put List.mem_cons_self
            have gp' : Nx [p] H4 (upd H4 p (.dK (L2.dropK kF (.inr nm)))) := .put (by simp)
            refine fin _ ds' _ upd_same (nd_dropK ndF) (i1.nx gp) (fun q hq => ents q (i2 q hq)) (by omega) ?_ ((hs4.nx gp' (by simpa using hps.symm)).le (by omega))
            exact Nx.drop ((gD.mono (by simp)).trans (gp'.mono (by simp))) np
          · walk_at "st"
            refine ite_d (fun hw2 => ?_) (fun hw2 => ?_)
            · walk_at "st"
              refine ⟨p, _, rfl, .inl ⟨kF, .inr nm, .inl ep4, rfl, en.symm⟩, ?_⟩
              walk_at "st"
              refine ⟨p, _, rfl, DPut.k (k := .inr "Q") ep4 (hbig (by omega)), ?_⟩
              walk_at "st"
              exact put "Q" _ (.str (mapOf ps nm)) H4 (by decide +kernel) (by decide +kernel) (nm_okv (mapOf_ok h2 nd hnm)) ep4 ik4 (.str _) gD (hs4.le (by omega))
            · walk_at "st"
              refine ite_d (fun hw3 => ?_) (fun hw3 => ?_)
              · walk_at "st"
                refine ⟨p, _, rfl, .inl ⟨kF, .inr nm, .inl ep4, rfl, en.symm⟩, ?_⟩
                have al4 : Al (p :: S) H4 := (al.mono gD).cons ep4
                walk_at "st"
                intro l1 nl1
                have gl1 : Nx [] H4 (upd H4 l1 (.lst [.str (mapOf ps nm)])) := .new nl1
                have i1 : Im (p :: S) (upd H4 l1 (.lst [.str (mapOf ps nm)])) (.ref l1) (.list [.str (mapOf ps nm)]) := .lst (al4.ne nl1) (.inl upd_same) (.cons (.str _) .nil)
                generalize upd H4 l1 (.lst [.str (mapOf ps nm)]) = H5 at gl1 i1 ⊢
                walk_at "st"
                intro d1 nd1
                have gd1 : Nx [] H5 (upd H5 d1 (.dK [])) := .new nd1
                have i2 : Im (p :: S) (upd H5 d1 (.dK [])) (.ref d1) (.dict []) := .dct ((al4.mono gl1).ne nd1) (.inl upd_same) List.nodup_nil .nil
                have i1' := i1.nx (gd1.of0 (S := p :: S))
                generalize upd H5 d1 (.dK []) = H6 at gd1 i2 i1' ⊢
                walk_at "st"
                intro l2 nl2
                have gl2 : Nx [] H6 (upd H6 l2 (.lst [.str "Q", .non, .int 0, .ref l1, .ref d1, .str ""])) := .new nl2
                have g46 : Nx [] H4 H6 := gl1.trans gd1
                have hl2s : l2 ≠ s := fun z => (hs4.nx g46 (by simp)).al (by rw [← z]; exact nl2)
                walk_at "st"
                refine ⟨s, l2, _, [.str "Q", .non, .int 0, .ref l1, .ref d1, .str ""], rfl, (hs4.nx g46 (by simp)).nx gl2 (by simp), by omega, .of upd_same, hl2s, (by decide : 0 < 6), (by decide : 6 < 1000000), fun y H7 hy g7 hs7 => ?_⟩
                have g47 : Nx [s] H4 H7 := (g46.trans gl2).of0.trans g7
                have g67 : Nx (p :: S) H6 H7 := (gl2.of0.trans g7).mono (fun x hx => List.mem_cons_of_mem _ (hsub x hx))
                have ims : ImAll (p :: S) H7 [.str "Q", .non, .int 0, .ref l1, .ref d1, .str ""] [.str "Q", .none, .int 0, .list [.str (mapOf ps nm)], .dict [], .str ""] :=
                  .cons (.str _) (.cons .non (.cons (.int 0) (.cons (i1'.nx g67) (.cons (i2.nx g67) (.cons (.str _) .nil)))))
                obtain ⟨d, hd, iy⟩ := ims.mem hy
                have okm := nm_okv (mapOf_ok h2 nd hnm)
                have ok7 : Okv d := by
                  simp only [List.mem_cons, List.not_mem_nil, or_false] at hd
                  rcases hd with e | e | e | e | e | e <;> subst e
                  · exact okv_leaf (by decide +kernel) (by decide +kernel) (by decide +kernel) (by decide +kernel)
                  · exact okv_leaf rfl (by decide +kernel) (by decide +kernel) rfl
                  · exact okv_leaf (by decide +kernel) (by decide +kernel) (by decide +kernel) (by decide +kernel)
                  · refine ⟨?_, ?_, ?_, ?_⟩
                    · rw [okR, okRAll, okm.ok]; rfl
                    · have := (mapOf_ok h2 nd hnm).hi
                      rw [rl, rlAll, rl, rlAll]; omega
                    · rw [PyData.depth, PyData.depthAll, PyData.depth, PyData.depthAll]; decide
                    · rw [sm, smAll, okm.sm]; rfl
                  · exact okv_leaf rfl (by decide +kernel) (by decide +kernel) rfl
                  · exact okv_leaf (by decide +kernel) (by decide +kernel) (by decide +kernel) (by decide +kernel)
                have ep7 : H7 p = some (.dK kF) := g47.kp p _ (by simpa using hps) ep4
                walk_at "st"
                refine ⟨p, _, rfl, DPut.k (k := .inr nm) ep7 (hbig (by omega)), ?_⟩
                walk_at "st"
                exact put nm y d H7 (okn hnm).1 (okn hnm).2 ok7 ep7 (ik4.nx (g47.mono (fun x hx => List.mem_cons_of_mem _ (hsub x hx)))) iy (gD.trans g47) (hs7.le (by omega))
              · walk_at "st"
                refine ite_d (fun hw4 => ?_) (fun hw4 => ?_)
                · walk_at "st"
                  refine ⟨p, _, rfl, .inl ⟨kF, .inr tw, .inl ep4, rfl, et.symm⟩, ?_⟩
                  walk_at "st"
                  refine ⟨p, _, rfl, DPut.k (k := .inr nm) ep4 (hbig (by omega)), ?_⟩
                  walk_at "st"
                  exact put nm _ (.str (mapOf ps tw)) H4 (okn hnm).1 (okn hnm).2 (nm_okv (mapOf_ok h2 nd htw)) ep4 ik4 (.str _) gD (hs4.le (by omega))
                · walk_at "st"
                  refine ⟨p, _, rfl, .inl ⟨kF, .inr tw, .inl ep4, rfl, et.symm⟩, ?_⟩
                  walk_at "st"
                  refine ⟨p, _, rfl, .inl ⟨kF, .inr nm, .inl ep4, rfl, en.symm⟩, ?_⟩
                  walk_at "st"
                  intro t nt
                  refine s_gtupN rfl ?_
                  walk_at "st"
                  have gt : Nx [] H4 (upd H4 t (.tup [.str (mapOf ps tw), .str (mapOf ps nm)])) := .new nt
                  have ep5 : (upd H4 t (.tup [.str (mapOf ps tw), .str (mapOf ps nm)])) p = some (.dK kF) := gt.kp p _ (by simp) ep4
                  have ik5 := ik4.nx (gt.of0 (S := p :: S))
                  have g5 := gD.trans gt.of0
                  have hs5 := hs4.nx gt (by simp)
                  generalize upd H4 t (.tup [.str (mapOf ps tw), .str (mapOf ps nm)]) = H5 at ep5 ik5 g5 hs5 ⊢
                  refine ⟨p, _, rfl, DPut.k (k := .inr nm) ep5 (hbig (by omega)), ?_⟩
                  walk_at "st"
                  obtain ⟨ds', i1, i2, i3, i4⟩ := ik5.putK (k := .inr nm) (Im.str (mapOf ps tw)) ndF
                  have gp : Nx [p] H5 (upd H5 p (.dK (L2.putK kF (.inr nm) (.str (mapOf ps tw))))) := .put (by simp)
                  have ep6 : (upd H5 p (.dK (L2.putK kF (.inr nm) (.str (mapOf ps tw))))) p = some (.dK (L2.putK kF (.inr nm) (.str (mapOf ps tw)))) := upd_same
                  have i1' := i1.nx (gp.mono (S' := p :: S) (by simp))
                  have hs6 := hs5.nx gp (by simpa using hps.symm)
                  have hl6 : (L2.putK kF (.inr nm) (.str (mapOf ps tw))).length ≤ 45 := by rw [i1.length]; omega
                  generalize L2.putK kF (.inr nm) (.str (mapOf ps tw)) = k6 at gp ep6 i1' i4 hs6 hl6 ⊢
                  generalize upd H5 p (.dK k6) = H6 at gp ep6 i1' hs6 ⊢
                  refine ⟨p, _, rfl, DPut.k (k := .inr tw) ep6 (hbig (by omega)), ?_⟩
                  walk_at "st"
                  obtain ⟨ds2, j1, j2, j3, j4⟩ := i1'.putK (k := .inr tw) (Im.str (mapOf ps nm)) i4
                  have gq : Nx [p] H6 (upd H6 p (.dK (L2.putK k6 (.inr tw) (.str (mapOf ps nm))))) := .put (by simp)
                  refine fin _ ds2 _ upd_same j4 (j1.nx (gq.mono (by simp))) (fun q hq => ?_) (by omega) ?_ ((hs6.nx gq (by simpa using hps.symm)).le (by omega))
                  · rcases j2 q hq with z | z
                    · rcases i2 q z with z | z
                      · exact ents q z
                      · exact ⟨nm, by rw [z]; rfl, (okn hnm).1, (okn hnm).2, by rw [z]; exact nm_okv (mapOf_ok h2 nd htw)⟩
                    · exact ⟨tw, by rw [z]; rfl, (okn htw).1, (okn htw).2, by rw [z]; exact nm_okv (mapOf_ok h2 nd hnm)⟩
                  · exact Nx.drop ((g5.mono (by simp)).trans ((gp.trans gq).mono (by simp))) np
    case h2 =>
      walk_at "st"
      intro l1 nl1
      have gl1 : Nx [] H2 (upd H2 l1 (.lst [])) := .new nl1
      have i1 : Im S (upd H2 l1 (.lst [])) (.ref l1) (.list []) := .lst (al2.ne nl1) (.inl upd_same) .nil
      have rF3 : Rd (upd H2 l1 (.lst [])) f (.dK kF) := gl1.rx f _ (by simp) .d rF2
      generalize upd H2 l1 (.lst []) = H3 at gl1 i1 rF3 ⊢
      walk_at "st"
      refine ⟨f, kF, rfl, rF3, fun H4 l2 as g4 nl2 nas nla e4 pr => ?_⟩
      have g34 : Nx [] H3 H4 := .ofSame g4
      have al3 : Al S H3 := al2.mono gl1
      have ikF3 : ImKv S H3 kF (strsKv ps) := (ikF.nx (gA.mono hsub)).nx gl1.of0
      have i2 : Im S H4 (.ref l2) (itemsD (strsKv ps)) := .lst (al3.ne nl2) (.inl e4) (ImAll.items g4 (fun a ha => .inl ha) ikF3 pr (fun t ht => al3.ne (nas t ht)))
      walk_at "st"
      intro d1 nd1
      have gd1 : Nx [] H4 (upd H4 d1 (.dK [])) := .new nd1
      have al4 : Al S H4 := al3.mono g34
      have i3 : Im S (upd H4 d1 (.dK [])) (.ref d1) (.dict []) := .dct (al4.ne nd1) (.inl upd_same) List.nodup_nil .nil
      have i2' := i2.nx (gd1.of0 (S := S))
      have i1' := (i1.nx (g34.of0 (S := S))).nx (gd1.of0 (S := S))
      have al5 : Al S (upd H4 d1 (.dK [])) := al4.mono gd1
      have g25 : Nx [] H2 (upd H4 d1 (.dK [])) := (gl1.trans g34).trans gd1
      generalize upd H4 d1 (.dK []) = H5 at i3 i2' i1' al5 g25 ⊢
      walk_at "st"
      intro d2 nd2
      walk_at "st"
      refine ⟨upd_same, [(.inr "Q", .str "Q")], rfl, by decide, ?_⟩
      rw [upd_upd, show mergeK [] [((Sum.inr "Q" : Key), V.str "Q")] = [((Sum.inr "Q" : Key), V.str "Q")] from rfl]
      have gd2 : Nx [] H5 (upd H5 d2 (.dK [(.inr "Q", .str "Q")])) := .new nd2
      have i4 : Im S (upd H5 d2 (.dK [(.inr "Q", .str "Q")])) (.ref d2) (.dict [(.str "Q", .str "Q")]) := .dct (al5.ne nd2) (.inl upd_same) (by simp) (.cons (k := .inr "Q") (.str _) .nil)
      have i1'' := i1'.nx (gd2.of0 (S := S))
      have i2'' := i2'.nx (gd2.of0 (S := S))
      have i3'' := i3.nx (gd2.of0 (S := S))
      have g26 := g25.trans gd2
      generalize upd H5 d2 (.dK [(.inr "Q", .str "Q")]) = H6 at gd2 i4 i1'' i2'' i3'' g26 ⊢
      walk_at "st"
      intro lp nlp
      walk_at "st"
      have gl : Nx [] H6 (upd H6 lp (.lst [.non, .int 0, .str "", .ref l1, .ref l2, .ref d1, .ref d2])) := .new nlp
      have hs6 := hs2.nx g26 (by simp)
      have hls : lp ≠ s := fun z => hs6.al (by rw [← z]; exact nlp)
      refine ⟨s, lp, _, [.non, .int 0, .str "", .ref l1, .ref l2, .ref d1, .ref d2], rfl, hs6.nx gl (by simp), by omega, .of upd_same, hls, (by decide : 0 < 7), (by decide : 7 < 1000000), fun y H7 hy g7 hs7 => ?_⟩
      have g67 : Nx S H6 H7 := (gl.of0.trans g7).mono hsub
      have ims : ImAll S H7 [.non, .int 0, .str "", .ref l1, .ref l2, .ref d1, .ref d2] [.none, .int 0, .str "", .list [], itemsD (strsKv ps), .dict [], .dict [(.str "Q", .str "Q")]] :=
        .cons .non (.cons (.int 0) (.cons (.str _) (.cons (i1''.nx g67) (.cons (i2''.nx g67) (.cons (i3''.nx g67) (.cons (i4.nx g67) .nil))))))
      obtain ⟨d, hd, iy⟩ := ims.mem hy
      have hln : (strsKv ps).length ≤ 40 := by unfold strsKv; rw [List.length_map]; exact hl
      have okd : Okd d := by
        simp only [List.mem_cons, List.not_mem_nil, or_false] at hd
        rcases hd with e | e | e | e | e | e | e <;> subst e
        · exact okd_leaf rfl (by decide +kernel) (by decide +kernel) rfl
        · exact okd_leaf (by decide +kernel) (by decide +kernel) (by decide +kernel) (by decide +kernel)
        · exact okd_leaf (by decide +kernel) (by decide +kernel) (by decide +kernel) (by decide +kernel)
        · exact okd_leaf rfl (by decide +kernel) (by decide +kernel) rfl
        · exact items_ok ents (by omega)
        · exact okd_leaf rfl (by decide +kernel) (by decide +kernel) rfl
        · exact okd_leaf (by decide +kernel) (by decide +kernel) (by decide +kernel) (by decide +kernel)
      exact q y d H7 iy okd (gA.trans (g26.of0.trans (gl.of0.trans g7))) (hs7.le (by omega))


theorem ok_LsameW {P : Program} {w : World} {K : PySem.W.Frag} {mg : Str → Option Value} {base : Heap} (T : Bn mg)
    {f : Addr} {fd : FuncData} (F : FunD K "_law_same" "_law_same" (defArgs s_Lsame) (defBody s_Lsame) (defScope s_Lsame) [] [] f fd) :
    FnA (GH 1) P w K mg base f fd ["found", "due"] (sp_LsameW K) := by
  refine okA false F sc_Lsame (fun vs H Q h => ?_) (fun A gA => gA.depth) (fun z => by cases z) (fun cdv A outer s H vs Q gA h => ?_)
  · obtain ⟨v, d, rfl, _⟩ := h
    rfl
  · have hr := gA.deeper (envOfC "_law_same" (defScope s_Lsame) s.heap.objs.size f cdv)
    have hu : (A.deeper (envOfC "_law_same" (defScope s_Lsame) s.heap.objs.size f cdv)).units + 1 < cLine := by have := hr.un; omega
    obtain ⟨v, d, rfl, hv, hD, hL, hT, q⟩ := h
    refine ⟨_, (pss_cons (ps_if (pt_val (pe_callB kisD (by rfl) T.isinstance (by decide +kernel) (pa_cons (pv 1) (pa_cons (pe_tyn "dict" T.dict) pa_nil)))) (pss_one ps_never) pss_nil)
    (pss_cons (ps_if (pt_val (pe_callB kisDT (by rfl) T.isinstance (by decide +kernel) (pa_cons (pv 1) (pa_cons (pe_tup (pa_cons (pe_tyn "list" T.list) (pa_cons (pe_tyn "tuple" T.tuple) pa_nil))) pa_nil)))) (pss_cons ps_never
    (pss_one ps_never)) pss_nil)
    (pss_cons (ps_set (i := 2) sc_Lsame.nd rfl (Or.inl rfl) (pe_and (pe_cmpR op_eq (pe_callB kisD (by rfl) T.isinstance (by decide +kernel) (pa_cons (pv 0) (pa_cons (pe_tyn "bool" T.bool) pa_nil))) (pe_callB kisD (by rfl) T.isinstance (by decide +kernel) (pa_cons (pv 1) (pa_cons (pe_tyn "bool" T.bool) pa_nil))) (nomark _)) (pe_one (pe_cmpR op_eq (pe_callB kisD (by rfl) T.isinstance (by decide +kernel) (pa_cons (pv 0) (pa_cons (pe_tyn "int" T.int) pa_nil))) (pe_callB kisD (by rfl) T.isinstance (by decide +kernel) (pa_cons (pv 1) (pa_cons (pe_tyn "int" T.int) pa_nil))) (nomark _)))))
    (pss_cons (ps_if (PW.pt (pw_or (pt_val (pe_callB kisDT (by rfl) T.isinstance (by decide +kernel) (pa_cons (pv 0) (pa_cons (pe_tup (pa_cons (pe_tyn "dict" T.dict) (pa_cons (pe_tyn "list" T.list) (pa_cons (pe_tyn "tuple" T.tuple) pa_nil)))) pa_nil)))) (pw_or (pt_not (kt_truth K (pv 2) (by intro _; rfl))) (pw_or1 (pt_cmpR op_ne (pe_callB kisD (by rfl) T.isinstance (by decide +kernel) (pa_cons (pv 0) (pa_cons (pe_tyn "str" T.str) pa_nil))) (pe_callB kisD (by rfl) T.isinstance (by decide +kernel) (pa_cons (pv 1) (pa_cons (pe_tyn "str" T.str) pa_nil))) (nomark _)))))) (pss_one (ps_ret pe_bl)) pss_nil)
    (pss_one (ps_ret (pe_ifExp (pt_cmpR op_isN (pv 1) pe_non (nomark _)) (pe_cmpR op_isN (pv 0) pe_non (nomark _)) (pe_cmpR op_eq (pv 0) (pv 1) (nomark _))))))))), ?_⟩
    walk_at "go"
    rw [hD]
    walk_at "st"
    intro t1 nt1
    have gt1 : Nx [] H (upd H t1 (.tup [.ty "list", .ty "tuple"])) := .new nt1
    have hv1 := hv.nx gt1
    walk_at "st"
    refine s_isLT hv ?_ nt1
    generalize upd H t1 (.tup [.ty "list", .ty "tuple"]) = H1 at hv1 gt1 ⊢
    rw [hL, hT, Bool.or_false]
    walk_at "st"
    intro t2 nt2
    walk_at "st"
    refine s_isDLT hv1 ?_ nt2
    have hv2 := hv1.nx (S := []) (.new (o := .tup [.ty "dict", .ty "list", .ty "tuple"]) nt2)
    have gt2 : Nx [] H1 (upd H1 t2 (.tup [.ty "dict", .ty "list", .ty "tuple"])) := .new nt2
    generalize upd H1 t2 (.tup [.ty "dict", .ty "list", .ty "tuple"]) = H2 at hv2 gt2 ⊢
    rw [hD, hL, hT, Bool.or_false, Bool.or_false]
    walk_at "st"
    refine ⟨true, .inl (show true = _ by simp), ?_⟩
    walk_at "st"
    refine ⟨rfl, ?_⟩
    walk_at "st"
    refine ite_d (fun hn => ?_) (fun hn => ?_)
    · walk_at "st"
      refine ⟨rfl, ?_⟩
      rw [decide_eq_true hn]
      exact q H2 (gt1.trans gt2)
    · walk_at "st"
      have hs : scal v v = true := by
        cases hv with
        | non => exact absurd rfl hn
        | bl b => rfl
        | int i => rfl
        | str x => rfl
        | lst => cases hL
        | tup => cases hT
        | dct => cases hD
      refine s_eq hs ?_
      rw [decide_eq_true rfl]
      exact q H2 (gt1.trans gt2)


theorem ok_LveryW {P : Program} {w : World} {K : PySem.W.Frag} {mg : Str → Option Value} {base : Heap} (T : Bn mg)
    (C_Lsame : DfA (GH 1) P w K mg base "_law_same" ["found", "due"] (sp_LsameW K))
    {f : Addr} {fd : FuncData} (F : FunD K "_law_very" "_law_very" (defArgs s_Lvery) (defBody s_Lvery) (defScope s_Lvery) [] [] f fd) :
    FnA (GH 2) P w K mg base f fd ["kept", "thing"] (sp_LveryW K) := by
  refine okA false F sc_Lvery (fun vs H Q h => ?_) (fun A gA => gA.depth) (fun z => by cases z) (fun cdv A outer s H vs Q gA h => ?_)
  · obtain ⟨v, d, rfl, _⟩ := h
    rfl
  · have hr := gA.deeper (envOfC "_law_very" (defScope s_Lvery) s.heap.objs.size f cdv)
    have hu : (A.deeper (envOfC "_law_very" (defScope s_Lvery) s.heap.objs.size f cdv)).units + 1 < cLine := by have := hr.un; omega
    obtain ⟨v, d, rfl, hv, hul, hnl, hT, hsm, q⟩ := h
    refine ⟨_, (pss_cons (ps_if (pt_val (pe_callB kisD (by rfl) T.isinstance (by decide +kernel) (pa_cons (pv 1) (pa_cons (pe_tyn "list" T.list) pa_nil)))) (pss_cons (ps_expr (kbm K PySem.F.plainAttrs_list PySem.F.slot_list_append PySem.F.type_list_append mt_append (pv 1) (pa_cons pe_str pa_nil)))
    (pss_cons (ps_set (i := 2) sc_Lvery.nd rfl (Or.inl rfl) (pe_and (pe_callB (kisY K) (by rfl) T.isinstance (by decide +kernel) (pa_cons (pv 0) (pa_cons (pe_tyn "list" T.list) pa_nil))) (pe_and (pe_cmpR op_eq (pe_callB (klen K) (by rfl) T.len (by decide +kernel) (pa_cons (pv 0) pa_nil)) (pe_callB (klen K) (by rfl) T.len (by decide +kernel) (pa_cons (pv 1) pa_nil)) (nomark _)) (pe_one (pe_cmpR op_eq (pe_ix (kx_list K) (pv 0) (pe_un un_neg pe_int) (fun _ _ => rfl)) pe_str (nomark _))))))
    (pss_cons (ps_expr (kbm0 K PySem.F.plainAttrs_list PySem.F.slot_list_pop PySem.F.type_list_pop mt_pop (pv 1)))
    (pss_one (ps_ret (pv 2)))))) pss_nil)
    (pss_cons (ps_if (pt_val (pe_callB kisD (by rfl) T.isinstance (by decide +kernel) (pa_cons (pv 1) (pa_cons (pe_tyn "dict" T.dict) pa_nil)))) (pss_cons (ps_dput hu (pv 1) pe_str pe_int rfl)
    (pss_cons (ps_set (i := 2) sc_Lvery.nd rfl (Or.inl rfl) (pe_and (pe_callB (kisY K) (by rfl) T.isinstance (by decide +kernel) (pa_cons (pv 0) (pa_cons (pe_tyn "dict" T.dict) pa_nil))) (pe_and (pe_cmpR op_eq (pe_callB (klen K) (by rfl) T.len (by decide +kernel) (pa_cons (pv 0) pa_nil)) (pe_callB (klen K) (by rfl) T.len (by decide +kernel) (pa_cons (pv 1) pa_nil)) (nomark _)) (pe_one (pe_cmpR op_eq (pe_dget1 hu (pv 0) pe_str ⟨rfl, rfl, rfl, rfl⟩) pe_int (nomark _))))))
    (pss_cons (ps_expr (pe_dpop1 (pv 1) pe_str ⟨rfl, rfl, rfl, rfl⟩))
    (pss_one (ps_ret (pv 2)))))) pss_nil)
    (pss_cons (ps_if (PW.pt (pw_or (pt_val (pe_callB kisDT (by rfl) T.isinstance (by decide +kernel) (pa_cons (pv 1) (pa_cons (pe_tup (pa_cons (pe_tyn "tuple" T.tuple) (pa_cons (pe_tyn "str" T.str) (pa_cons (pe_tyn "bool" T.bool) (pa_cons (pe_tyn "int" T.int) pa_nil))))) pa_nil)))) (pw_or1 (pt_cmpR op_isN (pv 1) pe_non (nomark _))))) (pss_one (ps_ret (pe_dfA C_Lsame hr (pa_cons (pv 0) (pa_cons (pv 1) pa_nil))))) pss_nil)
    (pss_one ps_never)))), ?_⟩
    walk_at "go"
    refine ite_b (fun hL => ?_) (fun hL => ?_)
    · -- lists
      cases d with
      | list ds =>
        cases hv with
        | @lst a xs _ na ra ia =>
        have ea : H a = some (.lst xs) := ra.elim id fun ⟨o, z⟩ => absurd z (hul _ _)
        rw [sm, Bool.and_eq_true] at hsm
        have hl1 : ds.length ≤ 1000 := of_decide_eq_true hsm.1
        have hlx := ia.length
        walk_at "st"
        refine ⟨.inl ⟨rfl, xs, .of ea⟩, ?_⟩
        walk_at "st"
        refine ⟨a, xs, _, rfl, rfl, ea, Nat.lt_of_lt_of_le (show xs.length < 100000 by omega) (by decide), ?_⟩
        walk_at "st"
        refine ⟨_, "list", "list", rfl, by decide, by decide, .base (.lst upd_same), ?_⟩
        rw [show subT "list" "list" = true from by decide +kernel]
        walk_at "st"
        refine ⟨_, _, rfl, .inl (len_l (.of upd_same)), ?_⟩
        walk_at "st"
        refine ⟨_, _, rfl, .inl (len_l (.of upd_same)), ?_⟩
        walk_at "st"
        refine s_ixl (.of upd_same) (atI_last xs _) ?_
        walk_at "st"
        refine ⟨.inl ⟨rfl, _, .of upd_same⟩, ?_⟩
        refine ⟨a, _, .str " late ", rfl, rfl, upd_same, by simp, ?_⟩
        rw [List.dropLast_concat, upd_back ea]
        walk_at "st"
        rw [decide_eq_true rfl]
        exact q H (.refl _ _)
      | _ => cases hL
    · walk_at "st"
      refine ite_b (fun hD => ?_) (fun hD => ?_)
      · cases d with
        | dict ds =>
          cases hv with
          | @dct a kvs _ na ra nda ia =>
          have ea : H a = some (.dK kvs) := ra.elim id fun ⟨o, z⟩ => absurd z (hul _ _)
          rw [sm, Bool.and_eq_true] at hsm
          have hl1 : ds.length ≤ 1000 := of_decide_eq_true hsm.1
          have hlx := ia.length
          walk_at "st"
          have hk : (.inr " late " : Key) ∉ kvs.map (·.1) := fun z => by
            obtain ⟨p, hp, e⟩ := List.mem_map.mp z
            have h1 : kD p.1 ∈ ds.map (·.1) := by rw [ia.keys]; exact List.mem_map.mpr ⟨p, hp, rfl⟩
            obtain ⟨y, hy, e2⟩ := List.mem_map.mp h1
            exact hnl ds rfl y hy (by rw [e2, e]; rfl)
          refine ⟨a, _, rfl, DPut.k (k := .inr " late ") ea (Nat.lt_of_lt_of_le (show kvs.length < 100000 by omega) (by decide)), ?_⟩
          rw [putK_new hk]
          walk_at "st"
          refine ⟨_, "dict", "dict", rfl, by decide, by decide, .base (.dK upd_same), ?_⟩
          rw [show subT "dict" "dict" = true from by decide +kernel]
          walk_at "st"
          refine ⟨_, _, rfl, .inr ⟨a, _, rfl, .inl upd_same, rfl⟩, ?_⟩
          walk_at "st"
          refine ⟨_, _, rfl, .inr ⟨a, _, rfl, .inl upd_same, rfl⟩, ?_⟩
          walk_at "st"
          refine s_var rfl ⟨a, rfl, .inl ⟨_, .inl upd_same⟩, ?_⟩
          walk_at "st"
          refine ⟨_, .inl ⟨_, .inr " late ", .inl upd_same, rfl, (valV_snoc hk).symm⟩, ?_⟩
          rw [Option.getD_some]
          walk_at "st"
          refine s_var rfl ⟨a, rfl, .inl ⟨_, .inl upd_same⟩, ?_⟩
          walk_at "st"
          refine ⟨_, .inr " late ", _, upd_same, rfl, valV_snoc hk, ?_⟩
          rw [dropK_snoc hk, upd_back ea]
          walk_at "st"
          rw [decide_eq_true rfl]
          exact q H (.refl _ _)
        | _ => cases hD
      · walk_at "st"
        intro t1 nt1
        walk_at "st"
        refine s_isTSBI hv ?_ nt1
        walk_at "st"
        have gt1 : Nx [] H (upd H t1 (.tup [.ty "tuple", .ty "str", .ty "bool", .ty "int"])) := .new nt1
        refine ite_b (fun h1 => ?_) (fun h1 => ?_)
        · walk_at "st"
          exact ⟨v, d, rfl, hv.nx gt1, hD, hL, hT, fun H' g => q H' (gt1.trans g)⟩
        · walk_at "st"
          have hn : v = .non := by
            cases hv with
            | non => rfl
            | lst => cases hL
            | dct => cases hD
            | _ => simp [isTupD, isStrD, isBoolD, isIntD] at h1
          subst hn
          refine ⟨rfl, ?_⟩
          walk_at "st"
          exact ⟨_, d, rfl, hv.nx gt1, hD, hL, hT, fun H' g => q H' (gt1.trans g)⟩


theorem ok_is_mapR {P : Program} {w : World} {K : PySem.W.Frag} {mg : Str → Option Value} {base : Heap} (T : Bn mg)
    {C : Addr} (RC : RingC K mg C)
    (C_is_between : Df P w K mg base CX0 2 "is_between" ["thing", "low", "high"] (sp_is_between K))
    (C_Ring_hours : Mt P w K mg base C 1 "hours" ["self"] (sp_Ring_hours K C))
    {CB : Addr} (Z_BadNumber : Rz P w K mg base "BadNumber" CB "number")
    {f : Addr} {fd : FuncData} (F : FunD K "is_map" "is_map" (defArgs s_is_map) (defBody s_is_map) (defScope s_is_map) [] [] f fd) :
    FnOk P w K mg base (L2.CX P w) 3 f fd ["ring", "twin", "by", "thing"] (sp_is_mapR K C CB) := by
  refine F.ok sc_is_map (fun vs H Q E h => ?_) (fun cdv A outer s H vs Q E hr h => ?_)
  · obtain ⟨r, t, h, A, v, u, d, rfl, _⟩ := h
    rfl
  · obtain ⟨r, t, h, A, v, u, d, rfl, hr1, hv, hb, q⟩ := h
    refine ⟨_, (pss_cons (ps_if (pt_not (pt_val (pe_df C_is_between hr (pa_cons (pv 2) (pa_cons pe_int (pa_cons (pe_op op_sub (pe_mm0 C_Ring_hours hr (pv 0)) pe_int) pa_nil)))))) (pss_one (ps_raiseX rfl Z_BadNumber hr (takes_of rfl rfl rfl rfl) (pa_cons (pv 2) pa_nil))) pss_nil)
    (pss_cons ps_never
    (pss_cons ps_never
    (pss_cons ps_never
    (pss_cons ps_never
    (pss_one ps_never)))))), ?_⟩
    walk_at "go"
    obtain ⟨_, dx, dA, eR, iA⟩ := id hr1
    refine ⟨r, dx, _, rfl, eR, lk_no, ?_⟩
    walk_at "st"
    refine ⟨r, [], h, A, rfl, hr1, ?_⟩
    walk_at "st"
    refine ⟨v, 0, h - 1, [], d, rfl, hv, ?_⟩
    rw [hb]
    walk_at "st"
    exact mkO_end q


theorem gh2_mark {A : Around} {v : Option Value} (h : Room 3 A) : GH 2 (A.mark v) := ⟨by have := h.dp; show A.depth + 3 * 2 + 5 < recursionLimit; omega, by have := h.un; show A.units + 16 * 2 + 200 < cLine; omega⟩
theorem gives_La_met {X : Cx} {CB : Addr} {g : Addr} {cdg : Value} {q : Str} (Z : Rz X.prog X.w X.K X.mg X.base "BadNumber" CB "number") (Dv : DfA (GH 2) X.prog X.w X.K X.mg X.base "_law_very" ["kept", "thing"] (sp_LveryW X.K)) :
    Gives2 X n_La_met "_law_a_met" (defScope s_La_met) g cdg (defBody s_La_met) "call" q (T2met CB (sp_LveryW X.K)) := by
  intro f c1 s H v Q tl hr act hc h
  refine ⟨_, pss_cons (ps_try_as (X := cxT X n_La_met "_law_a_met" (defScope s_La_met) g cdg s H) (n := "e") (i := 2) (c := .ref CB) (Wout := fun _ _ _ _ => False)
     (tb := fun W D σ H => σ[0]? = some (some (.ref f)) ∧ H c1 = some (LamX.CodeO c1 q) ∧ ∃ Ech : XK, (∀ cls d G', Ech cls d G' → W cls d σ G') ∧ tl Ech H (fun _ H1 => D.nx σ H1))
     (ts := fun a cls d => tRet (tCall (sp_LveryW X.K) [] E0 (tCons (tByX CB "number" a cls d (tVar 2)) (tCons (tVar 1) tNil))))
     rfl rfl (show n_La_met.Nodup by decide) rfl rfl ⟨rfl, by decide, .inl Z.gC⟩ LamX.takes0 (fun W pn xe tk _ => pss_one (ps_expr (act W pn xe _ _ tk))) (fun a oe cls d pn hz hf => pss_one (ps_ret (pe_dfA Dv (gh2_mark hr) (pa_cons (pe_byX Z hz hf (pv 2)) (pa_cons (pv 1) pa_nil)))))) (pss_one (ps_ret pe_bl)), ?_⟩
  refine ⟨rfl, hc, _, fun cls d G' z => ?_, h⟩
  obtain ⟨rfl, dd, u, rfl, hd, hq⟩ := z
  refine ⟨true, Z.te, fun _ a na => ?_, fun z => by cases z⟩
  exact ⟨.ref a, rfl, rfl, rfl, dd, u, rfl, hd, v, rfl, hq⟩


theorem ok_La_judged {P : Program} {w : World} {K : PySem.W.Frag} {mg : Str → Option Value} {base : Heap} (T : Bn mg)
    {C : Addr} (RC : RingC K mg C)
    (C_new_Ring : C8.Mak P w K mg base 4 "Ring" C (sp_Ring_init K C) [])
    (C_Lloose : Df P w K mg base CX0 16 "_law_loose" ["spring", "thing"] (sp_Lloose K))
    (C_La_bent : Df P w K mg base CX0 3 "_law_a_bent" ["spring", "found", "other"] (sp_La_bent K))
    (C_Ldraw : Df P w K mg base CX0 1 "_law_draw" ["spring", "many"] (sp_Ldraw K))
    (C_La_is_map : Df P w K mg base CX0 1 "_law_a_is_map" ["hours", "arcs", "other", "by", "thing"] (sp_La_is_map K))
    (C_Lmixed : Df P w K mg base CX0 2 "_law_mixed" ["spring", "some"] (sp_Lmixed K))
    (C_is_map : Df P w K mg base CX0 3 "is_map" ["ring", "twin", "by", "thing"] (sp_is_map K C))
    (C_Lsame : Df P w K mg base CX0 13 "_law_same" ["found", "due"] (sp_Lsame K))
    (CK_is_map : DfK P w K mg base CX0 4 "is_map" ["ring", "twin", "by", "thing"] ["thing", "by", "twin", "ring"] (sp_is_map K C))
    {CB c0 P0 : Addr} (CR_is_map : Df P w K mg base (L2.CX P w) 3 "is_map" ["ring", "twin", "by", "thing"] (sp_is_mapR K C CB)) (Z_BadNumber : Rz P w K mg base "BadNumber" CB "number") (Dv : DfA (GH 2) P w K mg base "_law_very" ["kept", "thing"] (sp_LveryW K))
    (hs : ∃ o, K.lookup sysModules = some o)
    (MG : ∃ (g : Addr) (oc : Value) (od : Option Addr) (dV kV doc pm : Value) (an : Option Addr) (cdv ct : Value) (osl : Array (Option Value)), mg "_law_a_met" = some (.ref g) ∧ PySem.W.keepIn K (.ref g) = true ∧
      K.lookup g = some ⟨oc, od, .func (PySem.W.fnOf "_law_a_met" "_law_a_met" (defArgs s_La_met) (defBody s_La_met) (defScope s_La_met) dV kV doc pm an cdv ct), osl⟩ ∧ PySem.W.codeIn K cdv "_law_a_met" = true ∧ L2.Binds K (PySem.W.fnOf "_law_a_met" "_law_a_met" (defArgs s_La_met) (defBody s_La_met) (defScope s_La_met) dV kV doc pm an cdv ct) ["call", "thing"] [])
    {f : Addr} {fd : FuncData} (F : FunD K "_law_a_judged" "_law_a_judged" (defArgs s_La_judged) (defBody s_La_judged) (defScope s_La_judged) [] [] f fd) (hJ : fd.code = .ref c0) (TB : LamX.TabB base mg c0 P0) :
    FnA (GG 17) P w K mg base f fd ["spring", "hours", "arcs", "other", "by", "found"] (sp_La_judged K C P0) := by
  refine okAc true F sc_La_judged (fun vs H Q h => ?_) (fun A gA => gA.depth) (fun _ A gA => gA.1.hd) (fun cdv A outer s H vs Q ec gA h => ?_)
  · obtain ⟨s, f, va, vo, h, turn, A, ps, zs, S, n, rfl, _⟩ := h
    rfl
  obtain rfl : cdv = .ref c0 := ec.symm.trans hJ
  have hr := gA.1.deeper (envOfC "_law_a_judged" (defScope s_La_judged) s.heap.objs.size f (.ref c0))
  have hg := (gA.deeper (envOfC "_law_a_judged" (defScope s_La_judged) s.heap.objs.size f (.ref c0))).2
  obtain ⟨g, oc, od, dV, kV, doc, pm, an, cdv, ct, osl, hmG, hkG, lkG, hcG, hbG⟩ := MG
  · obtain ⟨s, f, va, vo, h, turn, A, ps, zs, S, n, rfl, hsS, al, tb, iA, iB, iF, okA, okB, lA, lF, lB, nm1, nm2, ndF, h1, h2, t0, t1, hs0, hn, q⟩ := h
    refine ⟨_, PSs.nox (pss_cons (ps_asg (pe_tup (pa_cons (C8.pe_mk C_new_Ring hr (by first | decide | omega) rfl (pa_cons (pv 1) (pa_cons (pe_df C_Lloose hr (pa_cons (pv 0) (pa_cons (pv 2) pa_nil))) pa_nil))) (pa_cons (C8.pe_mk C_new_Ring hr (by first | decide | omega) rfl (pa_cons (pv 1) (pa_cons (pe_df C_Lloose hr (pa_cons (pv 0) (pa_cons (pv 3) pa_nil))) pa_nil))) pa_nil))) (kgtup (n := 2) K rfl (pgs_cons (pg_name (i := 6) sc_La_judged.nd rfl (Or.inr rfl)) (pgs_cons (pg_name (i := 7) sc_La_judged.nd rfl (Or.inr rfl)) pgs_nil))))
    (pss_cons (ps_for PassesOwn.never rfl (ki_list K (pe_op op_cat (pe_lst (pa_cons (pv 5) pa_nil)) (pe_lc (own := [("k", 14)]) (tt := tYes) rfl sc_La_judged.nd (pi_range1 (by rfl) T.range (pa_cons pe_int pa_nil)) (blkOk_by (N := n_La_judged) (sc := defScope s_La_judged) (by decide +kernel)) (fun _ _ _ _ _ => (pg_name (i := 14) sc_La_judged.nd rfl (Or.inl rfl))) (fun _ _ _ _ _ => pts_nil) (fun _ _ _ _ _ => (pe_df C_La_bent hr (pa_cons (pv 0) (pa_cons (pv 5) (pa_cons (pv 3) pa_nil)))))))) (pg_name (i := 8) sc_La_judged.nd rfl (Or.inr rfl))
      (pss_one (ps_for PassesOwn.never rfl (ki_list K (pe_lst (pa_cons (pv 4) (pa_cons (pe_op op_mod (pe_op op_add (pv 4) pe_int) (pv 1)) (pa_cons pe_int (pa_cons (pe_df C_Ldraw hr (pa_cons (pv 0) (pa_cons (pv 1) pa_nil))) pa_nil)))))) (pg_name (i := 9) sc_La_judged.nd rfl (Or.inl rfl))
      (pss_cons (ps_parG2 (i1 := 10) (i2 := 11) rfl sc_La_judged.nd rfl rfl (by decide) (Or.inl rfl) (Or.inl rfl) (pa_cons (pe_df C_La_is_map hr (pa_cons (pv 1) (pa_cons (pv 2) (pa_cons (pv 3) (pa_cons (pv 9) (pa_cons (pv 8) pa_nil)))))) (pa_cons (pv 8) pa_nil)) (by rfl))
    (pss_cons (ps_if (pt_val (pe_callB kisD (by rfl) T.isinstance (by decide +kernel) (pa_cons (pv 8) (pa_cons (pe_tyn "dict" T.dict) pa_nil)))) (pss_one (ps_set (i := 11) sc_La_judged.nd rfl (Or.inl rfl) (pe_callTy (kdictP K) (by rfl) T.dict (by decide +kernel) (pa_cons (pe_df C_Lmixed hr (pa_cons (pv 0) (pa_cons (pe_litems rfl (pv 8) (by rfl) T.list) pa_nil))) pa_nil)))) pss_nil)
    (pss_cons (ps_set (i := 12) sc_La_judged.nd rfl (Or.inl rfl) (pe_callB (kreprD hr hg hs) (by rfl) T.repr (by decide +kernel) (pa_cons (pv 11) pa_nil)))
    (pss_cons (ps_set (i := 13) sc_La_judged.nd rfl (Or.inl rfl) (pe_lst (pa_cons (pe_df C_is_map hr (pa_cons (pv 6) (pa_cons (pv 7) (pa_cons (pv 9) (pa_cons (pv 11) pa_nil))))) (pa_cons (pe_dfk CK_is_map hr (pk_cons (pv 11) (pk_cons (pv 9) (pk_cons (pv 7) (pk_cons (pv 6) pk_nil))))) pa_nil))))
    (pss_one (ps_if (PW.pt (pw_or (pt_not (pt_val (pe_df C_Lsame hr (pa_cons (pv 13) (pa_cons (pe_lst (pa_cons (pv 10) (pa_cons (pv 10) pa_nil))) pa_nil))))) (pw_or1 (pt_cmpR op_ne (pe_callB (kreprD hr hg hs) (by rfl) T.repr (by decide +kernel) (pa_cons (pv 11) pa_nil)) (pv 12) (nomark _))))) (pss_one (ps_ret pe_bl)) pss_nil)))))))))
    (pss_cons (ps_for PassesOwn.never rfl (ki_list K (pe_lst (pa_cons pe_non (pa_cons (pe_un un_neg pe_int) (pa_cons (pv 1) (pa_cons pe_bl (pa_cons pe_str (pa_cons (pe_lst (pa_cons pe_int pa_nil)) (pa_cons pe_dnewK pa_nil))))))))) (pg_name (i := 8) sc_La_judged.nd rfl (Or.inr rfl))
      (pss_one (ps_if (pt_not (pt_val (pe_met1 (k := 1) (i := 8) (qq := ("_law_a_judged" : Str) ++ ".<locals>.") (P := P0) (T2 := T2met CB (sp_LveryW K)) hmG hkG lkG hcG hbG sc_La_met rfl (Or.inl rfl) (fun _ => gives_La_met Z_BadNumber Dv) TB rfl (hr.mono (by decide)) (show LamX.LamS (defScope s_La_judged) _ from LamX.lamS_by (by decide +kernel)) rfl (fun _ _ _ _ _ => rfl) (fun A2 outer2 s2 H2 E2 f2 c2 hr2 => pe_dfX (E := E2) CR_is_map hr2 (takes_of rfl rfl rfl rfl) (pa_cons (pv 6) (pa_cons (pv 7) (pa_cons (pv 8) (pa_cons pe_non pa_nil))))) rfl (Or.inr (Or.inl rfl)) rfl))) (pss_one (ps_ret pe_bl)) pss_nil)))
    (pss_one (ps_ret pe_bl))))), ?_⟩
    walk_at "go"
    have hsub : ∀ x ∈ [s], x ∈ S := by simpa using hsS
    refine ⟨s, va, _, S, n, rfl, hsS, al, iA, hs0, by rw [arcs_wt]; omega, Nat.lt_of_le_of_lt (arcs_dep A) (by decide), arcs_sm0 (by omega) okA lA, fun v1 d1 H1 lo1 iv1 g1 hs1 => ?_⟩
    rw [arcs_wt] at hs1
    have al1 := al.mono g1
    walk_at "st"
    refine s_ringMade al1 iv1 lo1 okA lA h1 (by omega) (fun r ys H2 nr py g2 rR => ?_)
    have hs2 := hs1.nx g2 (by simp)
    have gB := g1.trans g2.of0
    have al2 := al1.mono g2
    walk_at "st"
    refine ⟨s, vo, _, S, _, rfl, hsS, al2, iB.nx (gB.mono hsub), hs2, by rw [arcs_wt]; omega, Nat.lt_of_le_of_lt (arcs_dep _) (by decide), arcs_sm0 (by omega) okB lB, fun v2 d2 H3 lo2 iv2 g3 hs3 => ?_⟩
    rw [arcs_wt] at hs3
    have al3 := al2.mono g3
    walk_at "st"
    refine s_ringMade al3 iv2 lo2 okB lB h1 (by omega) (fun u zs2 H4 nu pz g4 rU => ?_)
    have hs4 := hs3.nx g4 (by simp)
    walk_at "st"
    intro t1 nt1
    walk_at "st"
    have g5 : Nx [] H4 (upd H4 t1 (.tup [.ref r, .ref u])) := .new nt1
    have hs5 := hs4.nx g5 (by simp)
    have gC : Nx [] H3 (upd H4 t1 (.tup [.ref r, .ref u])) := g4.trans g5
    have gA5 : Nx [s] H (upd H4 t1 (.tup [.ref r, .ref u])) := gB.trans (g3.trans gC.of0)
    have al5 := al.mono gA5
    have gx5 := gA5.mono hsub
    have iA5 := iA.nx gx5
    have iB5 := iB.nx gx5
    have iF5 := iF.nx gx5
    have rR5 := rR.nx ((g3.trans gC.of0).mono hsub)
    have rU5 := rU.nx g5.of0
    have tb5 := tabs_nx gA5 hs0 tb
    generalize upd H4 t1 (.tup [.ref r, .ref u]) = H5 at g5 hs5 gC gA5 al5 gx5 iA5 iB5 iF5 rR5 rU5 tb5 ⊢
    clear iA iB iF rR rU tb al1 al2 al3 iv1 iv2 hs1 hs2 hs3 hs4 g1 g2 g3 g4 g5 gC gB gx5
    intro p0 np0
    have g6 : Nx [] H5 (upd H5 p0 (.lst [.ref f])) := .new np0
    have e6 : (upd H5 p0 (.lst [.ref f])) p0 = some (.lst [.ref f]) := upd_same
    have hs6 := hs5.nx g6 (by simp)
    have al6 := al5.mono g6
    have iA6 := iA5.nx g6.of0
    have iB6 := iB5.nx g6.of0
    have iF6 := iF5.nx g6.of0
    have rR6 := rR5.nx g6.of0
    have rU6 := rU5.nx g6.of0
    have tb6 := tabs_nx g6.of0 hs5 tb5
    have gA6 : Nx [s] H (upd H5 p0 (.lst [.ref f])) := gA5.trans g6.of0
    have p0S : p0 ∉ S := al5.ne np0
    generalize upd H5 p0 (.lst [.ref f]) = H6 at g6 e6 hs6 al6 iA6 iB6 iF6 rR6 rU6 tb6 gA6 ⊢
    clear iA5 iB5 iF5 rR5 rU5 tb5 al5 hs5 g6 np0 gA5
    walk_at "st"
    refine ⟨7, rfl, by omega, by omega, fun D nD => ?_⟩
    have hDS : D ∉ S := al6.ne nD
    have hDs : D ≠ s := fun z => hDS (by rw [z]; exact hsS)
    have hp0D := ne_of_none e6 nD
    refine lc_data (T := [s]) (S := S) runs_range (by omega) nD al6 hsub (fun i H' => Spr H' s (n + 2 * A.length + 2 * (movedA h turn A ps zs).length + 10 * i)) hs6 (fun i H' o hp => hp.put hDs) (fun i d => Okd d) (fun _ _ => trivial) ?_ ?_ gName_mono
    · rintro i Hx x H' hi g7 alD hp ⟨e, ev⟩
      subst e
      subst ev
      refine ⟨rfl, fun Q' hq => ?_⟩
      walk_at "st"
      refine ⟨s, f, vo, ps, D :: S, _, rfl, List.mem_cons_of_mem _ hsS, alD, Im.over nD (g7.mono (fun x hx => (List.mem_cons.mp hx).elim (fun z => by rw [z]; exact List.mem_cons_self) fun z => List.mem_cons_of_mem _ (hsub x z))) iF6, nm1, nm2, ndF, lF, hp, by omega, fun v d H8 iv ok g8 hs8 => hq v d H8 ok iv g8 (hs8.le (by omega))⟩
    · rintro H7 acc ds eD hl hf im g7 hs7
      walk_at "st"
      refine ⟨p0, D, [.ref f], acc, rfl, rfl, g7.kp p0 _ (by simpa using fun z => p0S (by rw [z]; exact hsS)) e6, eD, Nat.le_trans (show 1 + acc.length ≤ 1000 by have := im.length; omega) (by decide), fun l nl => ?_⟩
      have al7 := al6.mono g7
      have g8 : Nx [] H7 (upd H7 l (.lst ([.ref f] ++ acc))) := .new nl
      have e8 : (upd H7 l (.lst ([.ref f] ++ acc))) l = some (.lst ([.ref f] ++ acc)) := upd_same
      have hs8 := hs7.nx g8 (by simp)
      have gx8 := (g7.trans g8.of0).mono hsub
      have al8 := al7.mono g8
      have iA8 := iA6.nx gx8
      have iB8 := iB6.nx gx8
      have iF8 := iF6.nx gx8
      have rR8 := rR6.nx gx8
      have rU8 := rU6.nx gx8
      have tb8 := tabs_nx (g7.trans g8.of0) hs6 tb6
      have gA8 : Nx [s] H (upd H7 l (.lst ([.ref f] ++ acc))) := gA6.trans (g7.trans g8.of0)
      have im8 : ImAll S (upd H7 l (.lst ([.ref f] ++ acc))) ([.ref f] ++ acc) (strsD ps :: ds) := .cons iF8 (im.tail.nx g8.of0)
      have ok8 : ∀ (i : Nat) (d : PyData), (strsD ps :: ds)[i]? = some d → Okd d := fun i d e => by
        cases i with
        | zero => cases e; exact ents_ok (strs_ent nm1 nm2) (by unfold strsKv; rw [List.length_map]; omega)
        | succ j =>
          have hj : j < 7 := by have := (List.getElem?_eq_some_iff.mp e).1; rw [List.length_cons] at this; omega
          obtain ⟨d2, e2, o2⟩ := hf j hj
          have e : ds[j]? = some d := e
          rw [e2] at e
          cases e
          exact o2
      have l8 : ([V.ref f] ++ acc).length = 8 := by rw [im8.length, List.length_cons, hl]; rfl
      have lS : l ∉ S := al7.ne nl
      have hls : l ≠ s := fun z => lS (by rw [z]; exact hsS)
      generalize ([V.ref f] ++ acc) = things at g8 e8 hs8 al8 iA8 iB8 iF8 rR8 rU8 tb8 gA8 im8 l8 ⊢
      generalize (strsD ps :: ds) = dths at im8 ok8
      generalize upd H7 l (.lst things) = H8 at g8 e8 hs8 al8 iA8 iB8 iF8 rR8 rU8 tb8 gA8 im8 ⊢
      clear iA6 iB6 iF6 rR6 rU6 tb6 al6 hs6 im hf eD hs7 al7 nl gx8 g8 g7 e6 gA6
      refine ⟨l, rfl, ⟨_, .of e8⟩, ?_⟩
      refine for_runs (runs_list (K := K) (a := l) (xs := things)) (fun i σ H' => ∃ (y8 y9 y10 y11 y12 y13 y14 : Option V), σ = [some (V.ref s), some (.int h), some va, some vo, some (.int turn), some (.ref f), some (.ref r), some (.ref u), y8, y9, y10, y11, y12, y13, y14] ∧ Nx [s] H8 H' ∧ Spr H' s (n + 2 * A.length + 2 * (movedA h turn A ps zs).length + 10 * 7 + i * 5000)) ?_ (fun i σ H' ⟨_, _, _, _, _, _, _, _, g, _⟩ => .of (g.kp l _ (by simpa using hls) e8)) ?_ ?_
      · exact ⟨_, _, _, _, _, _, _, rfl, .refl _ _, by simpa using hs8⟩
      · rintro i σ _ x H9 hi ⟨y8, y9, y10, y11, y12, y13, y14, rfl, g9, hs9⟩ ⟨rfl, ex⟩
        obtain ⟨d, ed, ix8⟩ := im8.at_ ex
        have okd := ok8 _ _ ed
        have ix := ix8.nx (g9.mono hsub)
        have iA9 := iA8.nx (g9.mono hsub)
        have iB9 := iB8.nx (g9.mono hsub)
        have rR9 := rR8.nx (g9.mono hsub)
        have rU9 := rU8.nx (g9.mono hsub)
        have al9 := al8.mono g9
        rw [l8] at hi
        walk_at "st"
        refine ⟨s, _, h, rfl, hs9, by omega, by omega, by omega, fun dr H10 d0 d1 g10 hs10 => ?_⟩
        walk_at "st"
        intro pw npw
        have g11 : Nx [] H10 (upd H10 pw (.lst [.int turn, .int ((turn + 1) % h), .int 0, .int dr])) := .new npw
        have e11 : (upd H10 pw (.lst [.int turn, .int ((turn + 1) % h), .int 0, .int dr])) pw = some (.lst [.int turn, .int ((turn + 1) % h), .int 0, .int dr]) := upd_same
        have hs11 := hs10.nx g11 (by simp)
        have gx11 := (g10.trans g11.of0).mono hsub
        have al11 := al9.mono (g10.trans g11.of0)
        have iA11 := iA9.nx gx11
        have iB11 := iB9.nx gx11
        have rR11 := rR9.nx gx11
        have rU11 := rU9.nx gx11
        have ix11 := ix.nx gx11
        have gB11 : Nx [s] H8 (upd H10 pw (.lst [.int turn, .int ((turn + 1) % h), .int 0, .int dr])) := g9.trans (g10.trans g11.of0)
        have hpws : pw ≠ s := fun z => (al9.mono g10).ne npw (by rw [z]; exact hsS)
        generalize upd H10 pw (.lst [.int turn, .int ((turn + 1) % h), .int 0, .int dr]) = H11 at g11 e11 hs11 gx11 al11 iA11 iB11 rR11 rU11 ix11 gB11 ⊢
        clear iA9 iB9 rR9 rU9 al9 ix gx11 hs10 g10 g11 npw
        refine ⟨pw, rfl, ⟨_, .of e11⟩, ?_⟩
        refine for_runs (runs_list (K := K) (a := pw) (xs := [.int turn, .int ((turn + 1) % h), .int 0, .int dr])) (fun j σ H' => ∃ (y9 y10 y11 y12 y13 y14 : Option V), σ = [some (V.ref s), some (.int h), some va, some vo, some (.int turn), some (.ref f), some (.ref r), some (.ref u), some x, y9, y10, y11, y12, y13, y14] ∧ Nx [s] H11 H' ∧ Spr H' s (n + 2 * A.length + 2 * (movedA h turn A ps zs).length + 10 * 7 + i * 5000 + 10 + j * 1100)) ?_ (fun i σ H' ⟨_, _, _, _, _, _, _, g, _⟩ => .of (g.kp pw _ (by simpa using hpws) e11)) ?_ ?_
        · exact ⟨_, _, _, _, _, _, rfl, .refl _ _, hs11.le (by omega)⟩
        · rintro j σ _ lt H12 hj ⟨z9, z10, z11, z12, z13, z14, rfl, g12, hs12⟩ ⟨rfl, el⟩
          obtain ⟨late, rfl, b0, b1⟩ : ∃ late : Int, lt = .int late ∧ 0 ≤ late ∧ late < h := by
            have m := List.mem_of_getElem? el
            have p1 := Int.emod_nonneg (turn + 1) (b := h) (by omega)
            have p2 := Int.emod_lt_of_pos (turn + 1) (b := h) (by omega)
            simp only [List.mem_cons, List.not_mem_nil, or_false] at m
            rcases m with e | e | e | e <;> exact ⟨_, e, by omega, by omega⟩
          have hj4 : j < 4 := hj
          have gx12 := g12.mono hsub
          have iA12 := iA11.nx gx12
          have iB12 := iB11.nx gx12
          have rR12 := rR11.nx gx12
          have rU12 := rU11.nx gx12
          have ix12 := ix11.nx gx12
          have al12 := al11.mono g12
          walk_at "st"
          refine ⟨va, vo, x, h, late, A, _, d, rfl, Im.sub (by simp) _ iA12, Im.sub (by simp) _ iB12, Im.sub (by simp) _ ix12, by omega, okA.nd, okB.nd, lA, fun H13 g13 => ?_⟩
          have ix13 := ix12.nx g13.of0
          have iA13 := iA12.nx g13.of0
          have iB13 := iB12.nx g13.of0
          have rR13 := rR12.nx g13.of0
          have rU13 := rU12.nx g13.of0
          have al13 := al12.mono g13
          have hs13 := hs12.nx g13 (by simp)
          generalize hdue : isMapB h A h (movedA h turn A ps zs) late d = due
          walk_at "st"
          apply join3 (fun (own : V) (d' : PyData) (H14 : Hp) => Im S H14 own d' ∧ Okd d' ∧ isMapB h A h (movedA h turn A ps zs) late d' = due ∧ Nx [s] H13 H14 ∧ Spr H14 s (n + 2 * A.length + 2 * (movedA h turn A ps zs).length + 10 * 7 + i * 5000 + 10 + j * 1100 + 1001))
          case h1 =>
            intro k
            refine ite_b (fun hD => ?_) (fun hD => ?_)
            · have inv : ∃ es a kv, d = .dict es ∧ x = .ref a ∧ Rd H13 a (.dK kv) ∧ (kv.map (·.1)).Nodup ∧ ImKv S H13 kv es := by
                cases d with
                | dict es =>
                  cases ix13 with
                  | dct na ra ndk ik => exact ⟨es, _, _, rfl, rfl, ra, ndk, ik⟩
                | _ => cases hD
              obtain ⟨es, a, kv, ed0, ex0, ra, ndk, ik⟩ := inv
              · have okE : Okd (.dict es) := by rw [← ed0]; exact okd
                have hdE : isMapB h A h (movedA h turn A ps zs) late (.dict es) = due := by rw [← ed0]; exact hdue
                have hsm := okE.sm
                rw [sm, Bool.and_eq_true] at hsm
                have hl1 : es.length ≤ 1000 := of_decide_eq_true hsm.1
                have hlk := ik.length
                have ndE : (es.map (·.1)).Nodup := by
                  rw [ik.keys, show (kv.map fun q => kD q.1) = (kv.map (·.1)).map kD by rw [List.map_map]; rfl, nodup_inj (fun a b e => by cases a <;> cases b <;> cases e <;> rfl)]
                  exact ndk
                walk_at "st"
                refine ⟨a, kv, ex0, ra, fun H14 li as e14 nli nas nla el pr => ?_⟩
                have g14 : Nx [] H13 H14 := .ofSame e14
                have im14 : ImAll S H14 (as.map V.ref) (es.map fun p => .tuple [p.1, p.2]) := ImAll.items e14 (fun a ha => .inl ha) ik pr (fun t ht => al13.ne (nas t ht))
                have hlis : li ≠ s := fun z => al13.ne nli (by rw [z]; exact hsS)
                walk_at "st"
                refine ⟨s, li, _, as.map V.ref, rfl, hs13.nx g14 (by simp), by omega, .of el, hlis, Nat.lt_of_le_of_lt (show (as.map V.ref).length ≤ 1000 by rw [im14.length, List.length_map]; exact hl1) (by decide), fun p4 vs4 H15 np4 hp4 e4 g15 hs15 => ?_⟩
                obtain ⟨es2, pe2, im15⟩ := ImAll.permM hp4 im14
                rw [im14.length, List.length_map] at hs15
                have ndE2 : (es2.map (·.1)).Nodup := (pe2.map (·.1)).nodup_iff.mpr ndE
                walk_at "st"
                refine s_dictP (S := S) (.inl e4) (im15.nx (g15.mono hsub)) (fun p hp => ?_) ndE2 ((al13.mono g14).mono g15) (fun o H16 kv6 no noS g16 eo ndo io => ?_)
                · have hm : p.1 ∈ es.map (·.1) := List.mem_map_of_mem (f := (·.1)) (pe2.mem_iff.mp hp)
                  rw [ik.keys] at hm
                  obtain ⟨q, _, e⟩ := List.mem_map.mp hm
                  exact ⟨_, e.symm⟩
                · obtain ⟨own, eo2⟩ : ∃ own, own = V.ref o := ⟨_, rfl⟩
                  obtain ⟨d2, ed2⟩ : ∃ d2, d2 = PyData.dict es2 := ⟨_, rfl⟩
                  have io2 : Im S H16 own d2 := by rw [eo2, ed2]; exact .dct noS (.inl eo) ndo io.tail
                  rw [← eo2]
                  walk_at "st"
                  exact k own d2 H16 ⟨io2, by rw [ed2]; exact okd_perm pe2 okE, by rw [ed2, isMapB_perm pe2 ndE2]; exact hdE, g14.of0.trans (g15.trans g16.of0), (hs15.nx g16 (by simp)).le (by omega)⟩
            · walk_at "st"
              exact k x d H13 ⟨ix13, okd, hdue, .refl _ _, hs13.le (by omega)⟩
          case h2 =>
            rintro own d' H14 ⟨io, ok', hd', g14, hs14⟩
            walk_at "st"
            refine ⟨own, S, d', rfl, io, ok'.ok, by have := ok'.rl; omega, by have := ok'.dp; omega, ?_⟩
            have rR14 := rR13.nx (g14.mono hsub)
            have rU14 := rU13.nx (g14.mono hsub)
            have hAl : (arcsBy A ys).length ≤ 40 := by unfold arcsBy; rw [List.length_map, py.length_eq, List.length_map]; exact lA
            have hBl : (arcsBy (movedA h turn A ps zs) zs2).length ≤ 40 := by unfold arcsBy; rw [List.length_map, pz.length_eq, List.length_map]; exact lB
            walk_at "st"
            refine ⟨r, u, h, h, late, arcsBy A ys, arcsBy (movedA h turn A ps zs) zs2, own, d', rfl, rR14.sub (by simp), rU14.sub (by simp), Im.sub (by simp) _ io, b0, b1, by omega, ?_, ?_, hAl, hBl, fun H15 g15 => ?_⟩
            · rw [arcsBy_names]; exact py.nodup_iff.mpr okA.nd
            · rw [arcsBy_names]; exact pz.nodup_iff.mpr okB.nd
            walk_at "st"
            have gx15 := (g14.trans g15.of0).mono hsub
            have rR15 := rR13.nx gx15
            have rU15 := rU13.nx gx15
            have io15 := io.nx g15.of0
            refine ⟨r, u, h, h, late, arcsBy A ys, arcsBy (movedA h turn A ps zs) zs2, own, d', rfl, rR15.sub (by simp), rU15.sub (by simp), Im.sub (by simp) _ io15, b0, b1, by omega, ?_, ?_, hAl, hBl, fun H16 g16 => ?_⟩
            · rw [arcsBy_names]; exact py.nodup_iff.mpr okA.nd
            · rw [arcsBy_names]; exact pz.nodup_iff.mpr okB.nd
            rw [isMapB_by py pz okA.nd okB.nd, hd']
            walk_at "st"
            intro p5 np5
            have g17 : Nx [] H16 (upd H16 p5 (.lst [.bl due, .bl due])) := .new np5
            have e17 : (upd H16 p5 (.lst [.bl due, .bl due])) p5 = some (.lst [.bl due, .bl due]) := upd_same
            generalize upd H16 p5 (.lst [.bl due, .bl due]) = H17 at g17 e17 ⊢
            walk_at "st"
            intro p6 np6
            have g18 : Nx [] H17 (upd H17 p6 (.lst [.bl due, .bl due])) := .new np6
            have e18 : (upd H17 p6 (.lst [.bl due, .bl due])) p6 = some (.lst [.bl due, .bl due]) := upd_same
            have e18b : (upd H17 p6 (.lst [.bl due, .bl due])) p5 = some (.lst [.bl due, .bl due]) := g18.kp p5 _ (by simp) e17
            generalize upd H17 p6 (.lst [.bl due, .bl due]) = H18 at g18 e18 e18b ⊢
            walk_at "st"
            have g18x : Nx [] H14 H18 := g15.trans (g16.trans (g17.trans g18))
            refine ⟨.ref p5, .ref p6, .list [.bool due, .bool due], rfl, .lst (by simp) (.inl e18b) (.cons (.bl _) (.cons (.bl _) .nil)), .lst (by simp) (.inl e18) (.cons (.bl _) (.cons (.bl _) .nil)), by simp [dep, depAll], rfl, fun H19 g19 => ?_⟩
            have io19 := (io.nx g18x.of0).nx g19.of0
            walk_at "st"
            refine ⟨own, S, d', rfl, io19, ok'.ok, by have := ok'.rl; omega, by have := ok'.dp; omega, ?_⟩
            walk_at "st"
            exact ⟨_, _, _, _, _, _, rfl, g12.trans (g13.of0.trans (g14.trans (g18x.trans g19).of0)), (hs14.nx (g18x.trans g19) (by simp)).le (by omega)⟩
        · rintro σ H12 ⟨z9, z10, z11, z12, z13, z14, rfl, g12, hs12⟩
          walk_at "st"
          exact ⟨_, _, _, _, _, _, _, rfl, gB11.trans g12, hs12.le (by simp only [List.length_cons, List.length_nil]; omega)⟩
      · rintro σ H9 ⟨y8, y9, y10, y11, y12, y13, y14, rfl, g9, hs9⟩
        have hx9 := g9.mono hsub
        have rR9 := rR8.nx hx9
        have rU9 := rU8.nx hx9
        have al9 := al8.mono g9
        have tb9 := tabs_nx g9 hs8 tb8
        have gA9 := gA8.trans g9
        clear g9 hs8 iA8 iB8 iF8 rR8 rU8 tb8 gA8 al8 im8 ok8 e8
        walk_at "st"
        intro p7 np7
        walk_at "st"
        intro p8 np8
        walk_at "st"
        have g7 : Nx [] H9 (upd H9 p7 (.lst [.int 0])) := .new np7
        have g8 : Nx [] H9 (upd (upd H9 p7 (.lst [.int 0])) p8 (.dK [])) := g7.newP np8
        have e7 : (upd (upd H9 p7 (.lst [.int 0])) p8 (.dK [])) p7 = some (.lst [.int 0]) := (Nx.new (S := []) np8).kp p7 _ (by simp) upd_same
        have e8 : (upd (upd H9 p7 (.lst [.int 0])) p8 (.dK [])) p8 = some (.dK []) := upd_same
        generalize upd (upd H9 p7 (.lst [.int 0])) p8 (.dK []) = Ha at g8 e7 e8 ⊢
        intro p9 np9
        have g9 : Nx [] H9 (upd Ha p9 (.lst [.non, .int (-1), .int h, .bl true, .str "0", .ref p7, .ref p8])) := g8.newP np9
        have e9 : (upd Ha p9 (.lst [.non, .int (-1), .int h, .bl true, .str "0", .ref p7, .ref p8])) p9 = some (.lst [.non, .int (-1), .int h, .bl true, .str "0", .ref p7, .ref p8]) := upd_same
        have e79 := (Nx.new (S := []) (o := .lst [.non, .int (-1), .int h, .bl true, .str "0", .ref p7, .ref p8]) np9).kp p7 _ (by simp) e7
        have e89 := (Nx.new (S := []) (o := .lst [.non, .int (-1), .int h, .bl true, .str "0", .ref p7, .ref p8]) np9).kp p8 _ (by simp) e8
        generalize upd Ha p9 (.lst [.non, .int (-1), .int h, .bl true, .str "0", .ref p7, .ref p8]) = Hb at g9 e9 e79 e89 ⊢
        have tbb := tabs_nx g9.of0 hs9 tb9
        have hsb := hs9.nx g9 (by simp)
        have gAb := gA9.trans g9.of0
        have rRb := rR9.nx g9.of0
        have rUb := rU9.nx g9.of0
        refine ⟨p9, rfl, ⟨_, .of e9⟩, ?_⟩
        refine for_runs (runs_list (K := K) (a := p9) (xs := [.non, .int (-1), .int h, .bl true, .str "0", .ref p7, .ref p8])) (fun i σ H' => ∃ (y8 y9 y10 y11 y12 y13 y14 : Option V), σ = [some (V.ref s), some (.int h), some va, some vo, some (.int turn), some (.ref f), some (.ref r), some (.ref u), y8, y9, y10, y11, y12, y13, y14] ∧ LamX.ExtN Hb H' ∧ LamX.Tabs [(P0, (("_law_a_judged" : Str) ++ ".<locals>.") ++ "<lambda>")] H') ?_ (fun i σ H' ⟨_, _, _, _, _, _, _, _, g, _⟩ => .of (g p9 _ e9 (fun ps z => by cases z))) ?_ ?_
        · exact ⟨_, _, _, _, _, _, _, rfl, LamX.ExtN.refl _, tbb⟩
        · rintro i σ _ v Hc hi ⟨y8, y9, y10, y11, y12, y13, y14, rfl, gc, tbc⟩ ⟨rfl, ev⟩
          walk_at "st"
          refine ⟨tbc, v, rfl, fun Hd gd tbd => ?_⟩
          have gbd : LamX.ExtN Hb Hd := gc.trans gd
          unfold T2met
          walk_at "st"
          have rxd : Rx [] Hb Hd := fun a u hs nf r => by
            rcases r with e | ⟨o, e⟩
            · exact .inl (gbd a _ e nf.tb)
            · exact .inr ⟨o, gbd a _ e (fun ps z => by cases z)⟩
          obtain ⟨_, dxr, dar, er, ir⟩ := id rRb
          have rRd : RingR [] Hd C r h (arcsBy A ys) := ⟨by simp, dxr, dar, gbd _ _ er (fun ps z => by cases z), Im.rx rxd _ (Im.sub (by simp) _ ir)⟩
          have e7d := gbd _ _ e79 (fun ps z => by cases z)
          have e8d := gbd _ _ e89 (fun ps z => by cases z)
          have key : ∀ H' : Hp, H' p7 = some (.lst [.int 0]) → H' p8 = some (.dK []) → ∃ d, Im [] H' v d ∧ betB d 0 (h - 1) = false ∧ Unl H' v ∧ NoLate d ∧ isTupD d = false ∧ sm d = true := by
            intro H' q7 q8
            have m := List.mem_of_getElem? ev
            simp only [List.mem_cons, List.not_mem_nil, or_false] at m
            rcases m with e | e | e | e | e | e | e <;> subst e
            · exact ⟨.none, .non, rfl, trivial, (fun ds z => by cases z), rfl, rfl⟩
            · exact ⟨.int (-1), .int _, by simp [betB], trivial, (fun ds z => by cases z), rfl, rfl⟩
            · exact ⟨.int h, .int _, by simp [betB]; omega, trivial, (fun ds z => by cases z), rfl, by rw [sm]; exact decide_eq_true (Nat.lt_of_le_of_lt (show h.natAbs ≤ 100 by omega) (by decide))⟩
            · exact ⟨.bool true, .bl _, rfl, trivial, (fun ds z => by cases z), rfl, rfl⟩
            · exact ⟨.str "0", .str _, rfl, trivial, (fun ds z => by cases z), rfl, by decide +kernel⟩
            · exact ⟨.list [.int 0], .lst (by simp) (.inl q7) (.cons (.int _) .nil), rfl, (fun o u z => by rw [q7] at z; cases z), (fun ds z => by cases z), rfl, by decide +kernel⟩
            · exact ⟨.dict [], .dct (by simp) (.inl q8) List.nodup_nil .nil, rfl, (fun o u z => by rw [q8] at z; cases z), (fun ds z => by cases z; simp), rfl, by decide +kernel⟩
          obtain ⟨d, im, hb, _, _, _, _⟩ := key Hd e7d e8d
          refine ⟨r, u, h, arcsBy A ys, v, .non, d, rfl, rRd, im, hb, fun dx nd => ⟨rfl, dx, v, rfl, upd_same, ?_⟩⟩
          have ge : ∀ b o, Hd b = some o → (upd Hd dx (.xd [("number", v)])) b = some o := fun b o e => by rw [upd_ne (ne_of_none e nd)]; exact e
          obtain ⟨d2, im2, _, ul, nl, nt, sm2⟩ := key _ (ge _ _ e7d) (ge _ _ e8d)
          refine ⟨v, d2, rfl, im2, ul, nl, nt, sm2, fun H' g' => ?_⟩
          walk_at "st"
          exact ⟨_, _, _, _, _, _, _, rfl, fun b o e n => g'.kp b o (by simp) (ge b o (gbd b o e n)), (tbd.ext ge).ext fun b o e => g'.kp b o (by simp) e⟩
        · rintro σ Hc ⟨y8, y9, y10, y11, y12, y13, y14, rfl, gc, tbc⟩
          walk_at "st"
          refine q _ ((Nt.ofN gAb).trans (.ofE gc)) tbc ?_
          obtain ⟨x1, x2, x3, e, b1, b2, b3, b4, b5⟩ := hsb.ex
          exact ⟨x1, x2, x3, gc _ _ e (fun ps z => by cases z), b1, b2, b3, b4, by omega⟩


theorem ok_law {P : Program} {w : World} {K : PySem.W.Frag} {mg : Str → Option Value} {base : Heap} (T : Bn mg)
    {C : Addr} (RC : RingC K mg C)
    (C_Lspring : Df P w K mg base CX0 1 "_law_spring" ["script", "turn"] (sp_Lspring K))
    (C_La_drawn : Df P w K mg base CX0 6 "_law_a_drawn" ["spring", "many"] (sp_La_drawn K))
    (C_Lpick : Df P w K mg base CX0 2 "_law_pick" ["spring", "some"] (sp_Lpick K))
    (C_Ldraw : Df P w K mg base CX0 1 "_law_draw" ["spring", "many"] (sp_Ldraw K))
    (C_La_moved : Df P w K mg base CX0 5 "_law_a_moved" ["spring", "hours", "arcs", "by"] (sp_La_moved K))
    (C_is_map : Df P w K mg base CX0 3 "is_map" ["ring", "twin", "by", "thing"] (sp_is_map K C))
    (C_new_Ring : C8.Mak P w K mg base 4 "Ring" C (sp_Ring_init K C) [])
    {P0 : Addr} (C_La_judged : DfA (GG 17) P w K mg base "_law_a_judged" ["spring", "hours", "arcs", "other", "by", "found"] (sp_La_judged K C P0))
    {f : Addr} {fd : FuncData} (F : FunD K "law" "law" (defArgs s_law) (defBody s_law) (defScope s_law) [] [] f fd) :
    FnA (GG 18) P w K mg base f fd ["script"] (sp_law K C P0) := by
  refine okA true F sc_law (fun vs H Q h => ?_) (fun A gA => gA.depth) (fun _ A gA => gA.1.hd) (fun cdv A outer s H vs Q gA h => ?_)
  · obtain ⟨a, ns, rfl, _⟩ := h
    rfl
  have hr := gA.1.deeper (envOfC "law" (defScope s_law) s.heap.objs.size f cdv)
  have gJ := gA.deeper (envOfC "law" (defScope s_law) s.heap.objs.size f cdv)
  · obtain ⟨a, ns, rfl, ha, hl, h0, q⟩ := h
    refine ⟨_, PSs.nox (pss_cons (ps_for PassesOwn.never rfl (pi_range1 (by rfl) T.range (pa_cons pe_int pa_nil)) (pg_name (i := 1) sc_law.nd rfl (Or.inl rfl))
      (pss_cons (ps_set (i := 2) sc_law.nd rfl (Or.inl rfl) (pe_df C_Lspring hr (pa_cons (pv 0) (pa_cons (pv 1) pa_nil))))
    (pss_cons (ps_asg (pe_df C_La_drawn hr (pa_cons (pv 2) (pa_cons (pe_ifExp (pt_cmpR op_lt (pv 1) pe_int (nomark _)) (pe_df C_Lpick hr (pa_cons (pv 2) (pa_cons (pe_lst (pa_cons pe_int (pa_cons pe_int (pa_cons pe_int (pa_cons pe_int (pa_cons pe_int pa_nil)))))) pa_nil))) pe_int) pa_nil))) (kgtup (n := 2) K rfl (pgs_cons (pg_name (i := 3) sc_law.nd rfl (Or.inl rfl)) (pgs_cons (pg_name (i := 4) sc_law.nd rfl (Or.inr rfl)) pgs_nil))))
    (pss_cons (ps_set (i := 5) sc_law.nd rfl (Or.inl rfl) (pe_df C_Ldraw hr (pa_cons (pv 2) (pa_cons (pv 3) pa_nil))))
    (pss_cons (ps_asg (pe_df C_La_moved hr (pa_cons (pv 2) (pa_cons (pv 3) (pa_cons (pv 4) (pa_cons (pv 5) pa_nil))))) (kgtup (n := 2) K rfl (pgs_cons (pg_name (i := 6) sc_law.nd rfl (Or.inl rfl)) (pgs_cons (pg_name (i := 7) sc_law.nd rfl (Or.inr rfl)) pgs_nil))))
    (pss_cons (ps_if (pt_not (pt_val (pe_dfA C_La_judged gJ (pa_cons (pv 2) (pa_cons (pv 3) (pa_cons (pv 4) (pa_cons (pv 6) (pa_cons (pv 5) (pa_cons (pv 7) pa_nil))))))))) (pss_one (ps_ret pe_bl)) pss_nil)
    (pss_cons (ps_set (i := 8) sc_law.nd rfl (Or.inl rfl) (pe_callTy (kdictP K) (by rfl) T.dict (by decide +kernel) (pa_cons (pe_slice (ksl_list K) (pe_litems rfl (pv 6) (by rfl) T.list) (po_some pe_int) po_none) pa_nil)))
    (pss_cons (ps_if (PW.pt (pw_and (kt_truth K (pv 4) (by intro _; rfl)) (pw_and1 (pt_cmpR op_notBl (pe_df C_is_map hr (pa_cons (C8.pe_mk C_new_Ring hr (by first | decide | omega) rfl (pa_cons (pv 3) (pa_cons (pv 4) pa_nil))) (pa_cons (C8.pe_mk C_new_Ring hr (by first | decide | omega) rfl (pa_cons (pv 3) (pa_cons (pv 8) pa_nil))) (pa_cons (pv 5) (pa_cons (pe_callTy kdictD (by rfl) T.dict (by decide +kernel) (pa_cons (pv 7) pa_nil)) pa_nil))))) pe_bl (nomark _))))) (pss_one (ps_ret pe_bl)) pss_nil)
    (pss_cons (ps_set (i := 9) sc_law.nd rfl (Or.inl rfl) (pe_callTy (kdictP K) (by rfl) T.dict (by decide +kernel) (pa_cons (pe_slice (ksl_list K) (pe_litems rfl (pv 4) (by rfl) T.list) (po_some pe_int) po_none) pa_nil)))
    (pss_cons (ps_if (PW.pt (pw_and (kt_truth K (pv 4) (by intro _; rfl)) (pw_and1 (pt_cmpR op_notBl (pe_df C_is_map hr (pa_cons (C8.pe_mk C_new_Ring hr (by first | decide | omega) rfl (pa_cons (pv 3) (pa_cons (pv 9) pa_nil))) (pa_cons (C8.pe_mk C_new_Ring hr (by first | decide | omega) rfl (pa_cons (pv 3) (pa_cons (pv 6) pa_nil))) (pa_cons (pv 5) (pa_cons (pe_callTy (kdictP K) (by rfl) T.dict (by decide +kernel) (pa_cons (pe_lockU (pe_lc (own := [("name", 14)]) (tt := tYes) rfl sc_law.nd (pi_keys (pv 9)) (blkOk_by (N := n_law) (sc := defScope s_law) (by decide +kernel)) (fun _ _ _ _ _ => (pg_name (i := 14) sc_law.nd rfl (Or.inl rfl))) (fun _ _ _ _ _ => pts_nil) (fun _ _ _ _ _ => (pe_tup (pa_cons (pv 14) (pa_cons (pe_dget (hu_of hr) (pv 7) (pv 14) (fun _ _ => rfl)) pa_nil)))))) pa_nil)) pa_nil))))) pe_bl (nomark _))))) (pss_one (ps_ret pe_bl)) pss_nil)
    (pss_cons (ps_set (i := 10) sc_law.nd rfl (Or.inl rfl) (C8.pe_mk C_new_Ring hr (by first | decide | omega) rfl (pa_cons (pe_op op_add (pv 3) pe_int) (pa_cons (pe_callTy (kdictP K) (by rfl) T.dict (by decide +kernel) (pa_cons (pe_lockU (pe_lc (own := [("name", 14)]) (tt := tYes) rfl sc_law.nd (pi_keys (pv 4)) (blkOk_by (N := n_law) (sc := defScope s_law) (by decide +kernel)) (fun _ _ _ _ _ => (pg_name (i := 14) sc_law.nd rfl (Or.inl rfl))) (fun _ _ _ _ _ => pts_nil) (fun _ _ _ _ _ => (pe_tup (pa_cons (pv 14) (pa_cons (pe_tup (pa_cons (pe_ix (kx_tup K) (pe_dget (hu_of hr) (pv 4) (pv 14) (fun _ _ => rfl)) pe_int (fun _ _ => rfl)) (pa_cons (pe_ix (kx_tup K) (pe_dget (hu_of hr) (pv 4) (pv 14) (fun _ _ => rfl)) pe_int (fun _ _ => rfl)) pa_nil))) pa_nil)))))) pa_nil)) pa_nil))))
    (pss_cons (ps_set (i := 11) sc_law.nd rfl (Or.inl rfl) (pe_callTy (kdictP K) (by rfl) T.dict (by decide +kernel) (pa_cons (pe_lc (own := [("name", 14)]) (tt := tYes) rfl sc_law.nd (ki_list K (pe_callB (call_sortedD rfl) (by rfl) T.sorted (by decide +kernel) (pa_cons (pv 4) pa_nil))) (blkOk_by (N := n_law) (sc := defScope s_law) (by decide +kernel)) (fun _ _ _ _ _ => (pg_name (i := 14) sc_law.nd rfl (Or.inl rfl))) (fun _ _ _ _ _ => pts_nil) (fun _ _ _ _ _ => (pe_tup (pa_cons (pv 14) (pa_cons (pv 14) pa_nil))))) pa_nil)))
    (pss_one (ps_if (PW.pt (pw_or (pt_cmpR op_notBl (pe_df C_is_map hr (pa_cons (C8.pe_mk C_new_Ring hr (by first | decide | omega) rfl (pa_cons (pv 3) (pa_cons (pv 4) pa_nil))) (pa_cons (pv 10) (pa_cons pe_int (pa_cons (pv 11) pa_nil))))) pe_bl (nomark _)) (pw_or1 (pt_cmpR op_notBl (pe_df C_is_map hr (pa_cons (pv 10) (pa_cons (C8.pe_mk C_new_Ring hr (by first | decide | omega) rfl (pa_cons (pv 3) (pa_cons (pv 4) pa_nil))) (pa_cons pe_int (pa_cons (pv 11) pa_nil))))) pe_bl (nomark _))))) (pss_one (ps_ret pe_bl)) pss_nil))))))))))))))
    (pss_cons (ps_parG2 (i1 := 12) (i2 := 13) rfl sc_law.nd rfl rfl (by decide) (Or.inl rfl) (Or.inl rfl) (pa_cons (C8.pe_mk C_new_Ring hr (by first | decide | omega) rfl (pa_cons pe_int (pa_cons (pe_disp (pps_cons pe_str (pe_tup (pa_cons pe_int (pa_cons pe_int pa_nil))) (pps_cons pe_str (pe_tup (pa_cons pe_int (pa_cons pe_int pa_nil))) pps_nil)) (by rfl) (by rfl) (fun z => by cases z) (by decide)) pa_nil))) (pa_cons (C8.pe_mk C_new_Ring hr (by first | decide | omega) rfl (pa_cons pe_int (pa_cons (pe_disp (pps_cons pe_str (pe_tup (pa_cons pe_int (pa_cons pe_int pa_nil))) (pps_cons pe_str (pe_tup (pa_cons pe_int (pa_cons pe_int pa_nil))) pps_nil)) (by rfl) (by rfl) (fun z => by cases z) (by decide)) pa_nil))) pa_nil)) (by rfl))
    (pss_one (ps_ret (pe_and (pe_cmpR op_isBl (pe_df C_is_map hr (pa_cons (pv 12) (pa_cons (pv 13) (pa_cons pe_int (pa_cons (pe_disp (pps_cons pe_str pe_str (pps_cons pe_str pe_str pps_nil)) (by rfl) (by rfl) (fun z => by cases z) (by decide)) pa_nil))))) pe_bl (nomark _)) (pe_one (pe_cmpR op_isBl (pe_df C_is_map hr (pa_cons (pv 12) (pa_cons (pv 13) (pa_cons pe_int (pa_cons (pe_disp (pps_cons pe_str pe_str (pps_cons pe_str pe_str pps_nil)) (by rfl) (by rfl) (fun z => by cases z) (by decide)) pa_nil))))) pe_bl (nomark _)))))))), ?_⟩
    obtain ⟨R, R0, R1, R2⟩ := sql_all ha
    walk_at "go"
    refine ⟨6, rfl, by omega, by omega, ?_⟩
    refine for_runs runs_range (fun i σ H' => ∃ (y1 y2 y3 y4 y5 y6 y7 y8 y9 y10 y11 y12 y13 y14 : Option V), σ = [some (.ref a), y1, y2, y3, y4, y5, y6, y7, y8, y9, y10, y11, y12, y13, y14] ∧ R H' ∧ LamX.Tabs [(P0, (("_law_a_judged" : Str) ++ ".<locals>.") ++ "<lambda>")] H') ?_ (fun _ _ _ _ => trivial) ?_ ?_
    · exact ⟨_, _, _, _, _, _, _, _, _, _, _, _, _, _, rfl, R0, fun p hp => by rw [List.mem_singleton.mp hp]; exact LamX.TabS.nil h0⟩
    · rintro i σ _ x H1 hi ⟨y1, y2, y3, y4, y5, y6, y7, y8, y9, y10, y11, y12, y13, y14, rfl, hR, tb⟩ ⟨rfl, rfl⟩
      have hi6 : i < 6 := hi
      walk_at "st"
      refine ⟨a, ns, i, by simp, R1 _ hR, hl, by omega, fun s H2 ns2 g2 hs2 => ?_⟩
      have tb2 := tabs_to tb g2
      have al2 : Al [s] H2 := fun x hx => by rw [List.mem_singleton.mp hx]; exact hs2.al
      walk_at "st"
      apply join2 (fun (m : Nat) (H3 : Hp) => m ≤ 10 ∧ Nx [s] H2 H3 ∧ Spr H3 s 1)
      case h1 =>
        intro k
        refine ite_d (fun hlt => ?_) (fun hlt => ?_)
        · walk_at "st"
          intro p np
          walk_at "st"
          refine ⟨s, p, 0, _, rfl, hs2.nx (S := []) (.new np) (by simp), by omega, .of upd_same, hs2.ne np, by decide, by decide, fun x H3 hx g3 hs3 => ?_⟩
          have : ∃ m : Nat, x = .int m ∧ m ≤ 10 := by
            simp only [List.mem_cons, List.not_mem_nil, or_false] at hx
            rcases hx with e | e | e | e | e <;> rw [e]
            · exact ⟨0, rfl, by omega⟩
            · exact ⟨1, rfl, by omega⟩
            · exact ⟨2, rfl, by omega⟩
            · exact ⟨4, rfl, by omega⟩
            · exact ⟨6, rfl, by omega⟩
          obtain ⟨m, rfl, hm⟩ := this
          exact k m H3 ⟨hm, (Nx.new np).trans g3, hs3⟩
        · walk_at "st"
          exact k 10 H2 ⟨by omega, .refl _ _, hs2.le (by omega)⟩
      case h2 =>
        rintro m H3 ⟨hm, g3, hs3⟩
        walk_at "st"
        refine ⟨s, 1, m, [s], rfl, hs3, by omega, hm, by simp, by walk_at "fx", fun t a0 h A H4 et tS h1 h2 iA okA lA g4 hs4 => ?_⟩
        refine ⟨t, _, rfl, .of et, rfl, ?_⟩
        walk_at "st"
        refine ⟨s, _, h, rfl, hs4, by omega, by omega, by omega, fun turn H5 t0 t1 g5 hs5 => ?_⟩
        walk_at "st"
        refine ⟨s, .ref a0, h, turn, A, [s], _, rfl, by simp, by walk_at "fx", by walk_at "fx", hs5, by omega, okA, by omega, lA, fun t2 o f ps zs H6 et2 t2S p1 nd2 nm2 pz io iF g6 hs6 => ?_⟩
        refine ⟨t2, _, rfl, .of et2, rfl, ?_⟩
        walk_at "st"
        have iA6 : Im [s] H6 (.ref a0) (arcsD A) := by walk_at "fx"
        have lps : ps.length = A.length := by rw [← List.length_map (as := ps) (f := (·.1)), p1.length_eq, List.length_map]
        have lzs : zs.length = A.length := by rw [pz.length_eq, List.length_map]
        have lM : (movedA h turn A ps zs).length = A.length := by unfold movedA; rw [List.length_map, lzs]
        have nd1 : (ps.map (·.1)).Nodup := p1.nodup_iff.mpr okA.nd
        have nm1 : ∀ p ∈ ps, NameOk p.1 := fun p hp => by
          obtain ⟨x, hx, e⟩ := List.mem_map.mp (p1.mem_iff.mp (List.mem_map_of_mem (f := (·.1)) hp))
          rw [← e]; exact okA.names x hx
        have okM : ArcsOk h (movedA h turn A ps zs) := moved_ok okA (by omega) p1 nd2 nm2 pz
        have tb6 := tabs_nx (g5.trans g6) hs4 (tabs_nx g4 hs3 (tabs_nx g3 hs2 tb2))
        refine ⟨s, f, .ref a0, .ref o, h, turn, A, ps, zs, [s], _, rfl, by simp, by walk_at "fx", tb6, iA6, io, iF, okA, okM, lA, by omega, by omega, nm1, nm2, nd1, h1, h2, t0, t1, hs6, by omega, fun H7 g7 tb7 hs7 => ?_⟩
        have rx7 : Rx [s] H1 H7 := g2.rx.mono0.trans (g3.rx.trans (g4.rx.trans (g5.rx.trans (g6.rx.trans g7.rx))))
        have hR7 := R2 s _ _ ns2 hR rx7
        have iA7 : Im [] H7 (.ref a0) (arcsD A) := Im.sub ap_nil _ (Im.rx g7.rx _ iA6)
        have io7 : Im [] H7 (.ref o) (arcsD (movedA h turn A ps zs)) := Im.sub ap_nil _ (Im.rx g7.rx _ io)
        have iF7 : Im [] H7 (.ref f) (strsD ps) := Im.sub ap_nil _ (Im.rx g7.rx _ iF)
        generalize hM : movedA h turn A ps zs = M at okM lM io7
        clear g2 g3 g4 g5 g6 g7 hs2 hs3 hs4 hs5 hs6 hs7 iA6 io iF al2 tb tb2 tb6 hR7 iA
        walk_at "st"
        have fewer : ∀ {B : Arcs} {H' : Hp} {l : Addr} {vs : List V} {Q' : VK}, ArcsOk h B → H' l = some (.lst vs) → ImAll [] H' vs ((kvsD B).map fun p => PyData.tuple [p.1, p.2]) → (∀ (p : Addr) (ws : List V) (H2 : Hp), Nx [] H' H2 → H2 p = some (.lst ws) → ImAll [] H2 ws ((kvsD (B.drop 1)).map fun p => PyData.tuple [p.1, p.2]) → Q' (.ref p) H2) → rSlL K (.ref l) (some 1) none H' Q' := by
          intro B H' l vs Q' okB el im q'
          have im2 := im.drop 1
          rw [← List.map_drop, ← kvs_drop] at im2
          exact s_slL el im Al.nil _ _ cut1 im2 (fun p H2 np _ g2 ep im3 => q' p _ H2 g2 ep im3)
        -- one arc fewer in the other
        refine s_itemsD io7 Al.nil (fun l8 vs8 H8 _ _ g8 el8 im8 => ?_)
        walk_at "st"
        refine fewer okM el8 im8 (fun p9 ws9 H9 g9 ep9 im9 => ?_)
        walk_at "st"
        refine s_dictArcs (S := []) (.inl ep9) im9 (okM.sub (List.drop_sublist 1 M)).nd Al.nil (fun o1 H10 _ _ g10 _ io1 => ?_)
        walk_at "st"
        have ga : Nx [] H7 H10 := by walk_at "nx"
        have iA10 : Im [] H10 (.ref a0) (arcsD A) := by walk_at "fx"
        have iF10 : Im [] H10 (.ref f) (strsD ps) := by walk_at "fx"
        clear g8 g9 g10 el8 im8 ep9 im9
        refine ⟨_, tru_im iA10, ?_⟩
        apply join1 (fun H' => Nx [] H10 H')
        case h1 =>
          intro k
          refine ite_b (fun hA => ?_) (fun hA => ?_)
          · walk_at "st"
            refine s_ringMade (S := []) Al.nil iA10 (arcs_self A) okA lA h1 (by omega) (fun r ys H11 _ py g11 rR => ?_)
            walk_at "st"
            refine s_ringMade (S := []) Al.nil (by walk_at "fx" : Im [] H11 (.ref o1) (arcsD (M.drop 1))) (arcs_self _) (okM.sub (List.drop_sublist 1 M)) (by rw [List.length_drop]; omega) h1 (by omega) (fun u zs2 H12 _ pz2 g12 rU => ?_)
            walk_at "st"
            refine s_dictD (by walk_at "fx" : Im [] H12 (.ref f) (strsD ps)) Al.nil (fun e H13 _ _ g13 ie => ?_)
            walk_at "st"
            refine ⟨r, u, h, h, turn, _, _, .ref e, _, rfl, by walk_at "fx", by walk_at "fx", ie, t0, t1, by omega, ?_, ?_, ?_, ?_, fun H14 g14 => ?_⟩
            · rw [arcsBy_names]; exact py.nodup_iff.mpr okA.nd
            · rw [arcsBy_names]; exact pz2.nodup_iff.mpr (okM.sub (List.drop_sublist 1 M)).nd
            · unfold arcsBy; rw [List.length_map, py.length_eq, List.length_map]; exact lA
            · unfold arcsBy; rw [List.length_map, pz2.length_eq, List.length_map, List.length_drop]; omega
            rw [isMapB_len]
            · walk_at "st"
              refine ⟨_, _, rfl, rfl, ?_⟩
              walk_at "st"
              exact k H14 (by walk_at "nx")
            · unfold arcsBy
              rw [List.length_map, List.length_map, py.length_eq, pz2.length_eq, List.length_map, List.length_map, List.length_drop, lM]
              have : 0 < A.length := by
                cases A with
                | nil => cases hA
                | cons x r => simp
              omega
          · walk_at "st"
            exact k H10 (.refl _ _)
        case h2 =>
        intro H15 g15
        have ga15 : Nx [] H7 H15 := ga.trans g15
        clear iA10 iF10
        -- one arc fewer in the ring
        walk_at "st"
        have iA15 : Im [] H15 (.ref a0) (arcsD A) := iA7.nx ga15
        have iF15 : Im [] H15 (.ref f) (strsD ps) := iF7.nx ga15
        have io15 : Im [] H15 (.ref o) (arcsD M) := io7.nx ga15
        clear ga g15 io1
        refine s_itemsD iA15 Al.nil (fun l8 vs8 H8 _ _ g8 el8 im8 => ?_)
        walk_at "st"
        refine fewer okA el8 im8 (fun p9 ws9 H9 g9 ep9 im9 => ?_)
        walk_at "st"
        obtain ⟨W, hW⟩ : ∃ W, W = A.drop 1 := ⟨_, rfl⟩
        have okW : ArcsOk h W := by rw [hW]; exact okA.sub (List.drop_sublist 1 A)
        have lW : W.length = A.length - 1 := by rw [hW, List.length_drop]
        have nmW : ∀ a ∈ W, a.1 ∈ ps.map (·.1) := fun a ha => p1.mem_iff.mpr (List.mem_map_of_mem (f := (·.1)) ((List.drop_sublist 1 A).mem (by rw [← hW]; exact ha)))
        rw [← hW] at im9
        clear hW
        refine s_dictArcs (S := []) (.inl ep9) im9 okW.nd Al.nil (fun o2 H16 _ _ g16 _ io2 => ?_)
        walk_at "st"
        have gb : Nx [] H15 H16 := by walk_at "nx"
        have iA16 : Im [] H16 (.ref a0) (arcsD A) := by walk_at "fx"
        clear g8 g9 g16 el8 im8 ep9 im9
        refine ⟨_, tru_im iA16, ?_⟩
        apply join1 (fun H' => Nx [] H16 H')
        case h1 =>
          intro k
          refine ite_b (fun hA => ?_) (fun hA => ?_)
          · walk_at "st"
            refine s_ringMade (S := []) Al.nil io2 (arcs_self _) okW (by omega) h1 (by omega) (fun r ys H11 _ py g11 rR => ?_)
            walk_at "st"
            refine s_ringMade (S := []) Al.nil (by walk_at "fx" : Im [] H11 (.ref o) (arcsD M)) (arcs_self _) okM (by omega) h1 (by omega) (fun u zs2 H12 _ pz2 g12 rU => ?_)
            walk_at "st"
            have io12 : Im [] H12 (.ref o2) (arcsD W) := by walk_at "fx"
            have iF12 : Im [] H12 (.ref f) (strsD ps) := by walk_at "fx"
            cases io12 with
            | @dct _ kW _ nW rW ndW ikW =>
            cases iF12 with
            | @dct _ kF _ nF rF ndF ikF =>
            have lkW := ikW.length
            rw [kvsD_len] at lkW
            refine lc_keysD (S := []) rW Al.nil (by omega) (fun _ => rfl) (fun H' Q h => s_var rfl h) (fun i => .tuple [.str (nmAt W i), .str (mapOf ps (nmAt W i))]) ?_ ?_
            · intro i key v D H' Q' ek l nD alD hQ
              obtain ⟨x, ex, rfl, jx⟩ := arcs_at ikW ek
              rw [nmAt_of ex] at hQ
              have rF' : Rd H' f (.dK kF) := l.rx f _ (by simp) .d rF
              walk_at "st"
              refine ⟨f, _, rfl, .inl ⟨kF, .inr x.1, rF', rfl, (strs_get ikF (nmW _ (List.mem_of_getElem? ex))).symm⟩, ?_⟩
              walk_at "st"
              intro t1 nt1
              exact hQ _ _ (.tup (alD.ne nt1) (.inl upd_same) (.cons (.str _) (.cons (.str _) .nil))) (.new nt1)
            · intro D acc ds H13 nD eD hl hf im g13
              walk_at "st"
              have hds : ds = ((W.map (·.1)).map fun n => (PyData.str n, PyData.str (mapOf ps n))).map fun p => PyData.tuple [p.1, p.2] := by
                rw [by_names (A := W) (F := fun n => PyData.tuple [.str n, .str (mapOf ps n)]) lkW hl hf, List.map_map, List.map_map, List.map_map]
                rfl
              subst hds
              refine s_dictP (S := []) (.inl eD) im.tail (fun p hp => ?_) ?_ Al.nil (fun o3 H14 kv6 no3 _ g14 eo3 ndo io3 => ?_)
              · obtain ⟨z, hz, rfl⟩ := List.mem_map.mp hp
                exact ⟨.inr _, rfl⟩
              · rw [List.map_map]
                exact (nodup_inj (f := PyData.str) (fun a b z => by injection z)).mpr okW.nd
              · walk_at "st"
                refine ⟨r, u, h, h, turn, _, _, .ref o3, _, rfl, by walk_at "fx", by walk_at "fx", .dct (by simp) (.inl eo3) ndo io3.tail, t0, t1, by omega, ?_, ?_, ?_, ?_, fun H18 g18 => ?_⟩
                · rw [arcsBy_names]; exact py.nodup_iff.mpr okW.nd
                · rw [arcsBy_names]; exact pz2.nodup_iff.mpr okM.nd
                · unfold arcsBy; rw [List.length_map, py.length_eq, List.length_map]; omega
                · unfold arcsBy; rw [List.length_map, pz2.length_eq, List.length_map]; omega
                rw [isMapB_len]
                · walk_at "st"
                  refine ⟨_, _, rfl, rfl, ?_⟩
                  walk_at "st"
                  exact k H18 (by walk_at "nx")
                · unfold arcsBy
                  rw [List.length_map, List.length_map, py.length_eq, pz2.length_eq, List.length_map, List.length_map, lM, lW]
                  have : 0 < A.length := by
                    cases A with
                    | nil => cases hA
                    | cons x r => simp
                  omega
          · walk_at "st"
            exact k H16 (.refl _ _)
        case h2 =>
        intro H17 g17
        have gc : Nx [] H7 H17 := ga15.trans (gb.trans g17)
        clear iA15 iF15 io15 iA16 io2 g17 gb ga15
        have iA17 : Im [] H17 (.ref a0) (arcsD A) := iA7.nx gc
        -- an hour more
        walk_at "st"
        cases id iA17 with
        | @dct _ kA _ nA rA ndA ikA =>
        have lkA := ikA.length
        rw [kvsD_len] at lkA
        refine lc_keysD (S := []) rA Al.nil (by omega) (fun _ => rfl) (fun H' Q h => s_var rfl h) (fun i => .tuple [.str (nmAt A i), arcD (arcOf A (nmAt A i))]) ?_ ?_
        · intro i key v D H' Q' ek l nD alD hQ
          obtain ⟨x, ex, rfl, jx⟩ := arcs_at ikA ek
          rw [nmAt_of ex] at hQ
          have rA' : Rd H' a0 (.dK kA) := l.rx a0 _ (by simp) .d rA
          obtain ⟨v2, ev2, i2⟩ := arcs_get okA.nd (ikA.rx l.rx) (List.mem_map_of_mem (f := (·.1)) (List.mem_of_getElem? ex))
          obtain ⟨p2, rfl, _, r2⟩ := i2.pair_inv
          walk_at "st"
          refine ⟨a0, _, rfl, .inl ⟨kA, .inr x.1, rA', rfl, ev2.symm⟩, ?_⟩
          walk_at "st"
          refine s_ixt (.inl r2) (atI_at (j := 0) rfl rfl) ?_
          walk_at "st"
          refine ⟨a0, _, rfl, .inl ⟨kA, .inr x.1, rA', rfl, ev2.symm⟩, ?_⟩
          walk_at "st"
          refine s_ixt (.inl r2) (atI_at (j := 1) rfl rfl) ?_
          walk_at "st"
          intro t1 nt1
          walk_at "st"
          intro t2 nt2
          have h12 : t1 ≠ t2 := fun z => by rw [← z, upd_same] at nt2; cases nt2
          have nt20 : H' t2 = none := by rw [upd_ne h12.symm] at nt2; exact nt2
          refine hQ _ _ ?_ ((Nx.new nt1).newP nt2)
          refine .tup (alD.ne nt20) (.inl upd_same) (.cons (.str _) (.cons ?_ .nil))
          show Im _ _ _ (arcD ((arcOf A x.1).1, (arcOf A x.1).2))
          exact Im.pair (alD.ne nt1) (by rw [upd_ne h12, upd_same])
        · intro D acc ds H18 nD eD hl hf im g18
          walk_at "st"
          have hds : ds = (kvsD A).map fun p => PyData.tuple [p.1, p.2] := by
            rw [arcs_pairs]
            refine map_get (by omega) fun i x e => ?_
            rw [hf i (by have := (List.getElem?_eq_some_iff.mp e).1; omega), nmAt_of e, arcOf_mem okA.nd (List.mem_of_getElem? e)]
          subst hds
          refine s_dictArcs (S := []) (.inl eD) im.tail okA.nd Al.nil (fun o4 H19 _ _ g19 _ io4 => ?_)
          walk_at "st"
          have okA1 : ArcsOk (h + 1) A := ⟨okA.names, okA.nd, fun a ha => by have := okA.st a ha; omega, fun a ha => by have := okA.ln a ha; omega⟩
          refine s_ringMade (S := []) Al.nil io4 (arcs_self _) okA1 lA (by omega) (by omega) (fun wd ys H20 _ py g20 rW => ?_)
          walk_at "st"
          have gd : Nx [] H17 H20 := by walk_at "nx"
          clear g18 g19 g20 im io4 eD nD
          have ikA20 := ikA.nx gd
          have rA20 : Rd H20 a0 (.dK kA) := gd.rx a0 _ (by simp) .d rA
          refine ⟨a0, kA, _, rfl, rA20, kvs_keys ikA20, by rw [List.length_map]; omega, fun ks p hys hso np => ?_⟩
          walk_at "st"
          have hkl : ks.length = A.length := by rw [hys.length_eq, List.length_map]
          have ep : (upd H20 p (.lst (ks.map V.str))) p = some (.lst (ks.map V.str)) := upd_same
          have g21 : Nx [] H20 (upd H20 p (.lst (ks.map V.str))) := .new np
          generalize upd H20 p (.lst (ks.map V.str)) = H21 at ep g21 ⊢
          refine ⟨p, rfl, ⟨_, .of ep⟩, fun D nD => ?_⟩
          refine lc_data (T := []) (S := []) (runs_list (K := K) (a := p) (xs := ks.map V.str)) (by rw [List.length_map]; omega) nD Al.nil (by simp) (fun _ _ => True) trivial (fun _ _ _ _ => trivial)
            (fun i d => ∃ z, ks[i]? = some z ∧ d = .tuple [.str z, .str z]) (fun H' g => .inl (g.rx p _ (by simpa using ne_of_none ep nD) .l (.inl ep))) ?_ ?_ gName_mono
          · rintro i Hx x H22 hi g22 alD - ⟨rfl, ex⟩
            rw [List.length_map] at hi
            rw [List.getElem?_map, List.getElem?_eq_getElem hi] at ex
            injection ex with ex
            subst ex
            refine ⟨rfl, fun Q' hq => ?_⟩
            walk_at "st"
            intro t1 nt1
            exact hq _ _ _ ⟨_, List.getElem?_eq_getElem hi, rfl⟩ (.tup (alD.ne nt1) (.inl upd_same) (.cons (.str _) (.cons (.str _) .nil))) (.new nt1) trivial
          · rintro H22 acc ds eD hl hf im g22 -
            rw [List.length_map] at hl hf
            walk_at "st"
            have hds : ds = (ks.map fun n => (PyData.str n, PyData.str n)).map fun p => PyData.tuple [p.1, p.2] := by
              rw [List.map_map]
              refine map_get hl fun i x e => ?_
              obtain ⟨d, ed, z, ez, rfl⟩ := hf i (List.getElem?_eq_some_iff.mp e).1
              rw [e] at ez
              cases ez
              exact ed
            subst hds
            refine s_dictP (S := []) (.inl eD) im.tail (fun p hp => ?_) ?_ Al.nil (fun o5 H23 kv6 no5 _ g23 eo5 ndo io5 => ?_)
            · obtain ⟨z, hz, rfl⟩ := List.mem_map.mp hp
              exact ⟨.inr _, rfl⟩
            · rw [List.map_map]
              exact (nodup_inj (f := PyData.str) (fun a b z => by injection z)).mpr (hys.nodup_iff.mpr okA.nd)
            walk_at "st"
            have io : Im [] H23 (.ref o5) (.dict (ks.map fun n => (PyData.str n, PyData.str n))) := .dct (by simp) (.inl eo5) ndo io5.tail
            have iA23 : Im [] H23 (.ref a0) (arcsD A) := by walk_at "fx"
            have rW23 : RingR [] H23 C wd (h + 1) (arcsBy A ys) := by walk_at "fx"
            have ge : Nx [] H7 H23 := by walk_at "nx"
            clear im io5 eD
            refine s_ringMade (S := []) Al.nil iA23 (arcs_self _) okA lA h1 (by omega) (fun r zs2 H24 _ pz2 g24 rR => ?_)
            walk_at "st"
            have nY : ((arcsBy A ys).map (·.1)).Nodup := by rw [arcsBy_names]; exact py.nodup_iff.mpr okA.nd
            have lY : (arcsBy A ys).length ≤ 40 := by unfold arcsBy; rw [List.length_map, py.length_eq, List.length_map]; exact lA
            have nZ : ∀ {z : List Str}, z.Perm (A.map (·.1)) → ((arcsBy A z).map (·.1)).Nodup ∧ (arcsBy A z).length ≤ 40 := fun {z} pz => ⟨by rw [arcsBy_names]; exact pz.nodup_iff.mpr okA.nd, by unfold arcsBy; rw [List.length_map, pz.length_eq, List.length_map]; exact lA⟩
            refine ⟨r, wd, h, h + 1, 0, _, _, .ref o5, _, rfl, rR, by walk_at "fx", by walk_at "fx", by omega, by omega, by omega, (nZ pz2).1, nY, (nZ pz2).2, lY, fun H25 g25 => ?_⟩
            rw [isMapB_hours (by omega)]
            walk_at "st"
            refine ⟨_, _, rfl, rfl, ?_⟩
            walk_at "st"
            refine s_ringMade (S := []) Al.nil (by walk_at "fx" : Im [] H25 (.ref a0) (arcsD A)) (arcs_self _) okA lA h1 (by omega) (fun r2 zs3 H26 _ pz3 g26 rR2 => ?_)
            walk_at "st"
            refine ⟨wd, r2, h + 1, h, 0, _, _, .ref o5, _, rfl, by walk_at "fx", rR2, by walk_at "fx", by omega, by omega, by omega, nY, (nZ pz3).1, lY, (nZ pz3).2, fun H27 g27 => ?_⟩
            rw [isMapB_hours (by omega)]
            walk_at "st"
            refine ⟨_, _, rfl, rfl, ?_⟩
            walk_at "st"
            have gz : Nx [] H7 H27 := by walk_at "nx"
            exact ⟨_, _, _, _, _, _, _, _, _, _, _, _, _, _, rfl, R2 s _ _ ns2 hR (rx7.trans (Nx.rx (S := [s]) gz.of0)), tabs_to tb7 gz⟩
    · rintro σ H1 ⟨y1, y2, y3, y4, y5, y6, y7, y8, y9, y10, y11, y12, y13, y14, rfl, hR, tb⟩
      walk_at "st"
      intro p np
      walk_at "st"
      intro t1 n1
      walk_at "st"
      intro t2 n2
      walk_at "st"
      obtain ⟨e2, i2, g2⟩ := disp2_arcs (S := []) (a := "a") (b := "b") (z := 1) (w := 2) Al.nil np n1 n2 (show ("a" : Str) ≠ "b" by decide +kernel)
      refine ⟨e2, [(.inr "a", .ref t1), (.inr "b", .ref t2)], rfl, by simp, ?_⟩
      generalize upd (upd (upd (upd H1 p (.dK [])) t1 _) t2 _) p _ = H2 at i2 g2 ⊢
      have ok1 : ArcsOk 10 [("a", 8, 3), ("b", 1, 2)] := ⟨fun a ha => by
        simp only [List.mem_cons, List.not_mem_nil, or_false] at ha
        rcases ha with e | e <;> rw [e]
        · exact (show ("a" : Str) = ⟨#[97]⟩ by decide +kernel) ▸ NameOk.one (by decide)
        · exact (show ("b" : Str) = ⟨#[98]⟩ by decide +kernel) ▸ NameOk.one (by decide), by decide +kernel, by decide +kernel, by decide +kernel⟩
      have ok2 : ArcsOk 10 [("p", 1, 3), ("q", 4, 2)] := ⟨fun a ha => by
        simp only [List.mem_cons, List.not_mem_nil, or_false] at ha
        rcases ha with e | e <;> rw [e]
        · exact (show ("p" : Str) = ⟨#[112]⟩ by decide +kernel) ▸ NameOk.one (by decide)
        · exact (show ("q" : Str) = ⟨#[113]⟩ by decide +kernel) ▸ NameOk.one (by decide), by decide +kernel, by decide +kernel, by decide +kernel⟩
      have m1 : isMapB 10 [("a", 8, 3), ("b", 1, 2)] 10 [("p", 1, 3), ("q", 4, 2)] 3 (strsD [("a", "p"), ("b", "q")]) = true := by decide +kernel
      have m2 : isMapB 10 [("a", 8, 3), ("b", 1, 2)] 10 [("p", 1, 3), ("q", 4, 2)] 3 (strsD [("a", "q"), ("b", "p")]) = false := by decide +kernel
      have l1 : ([("a", 8, 3), ("b", 1, 2)] : Arcs).length = 2 := rfl
      have l2 : ([("p", 1, 3), ("q", 4, 2)] : Arcs).length = 2 := rfl
      generalize ([("a", 8, 3), ("b", 1, 2)] : Arcs) = A1 at i2 ok1 m1 m2 l1
      walk_at "st"
      refine s_ringMade (S := []) Al.nil i2 (arcs_self _) ok1 (by omega) (by omega) (by omega) (fun r ys H3 _ py g3 rR => ?_)
      walk_at "st"
      intro p2 np2
      walk_at "st"
      intro t3 n3
      walk_at "st"
      intro t4 n4
      walk_at "st"
      obtain ⟨e4, i4, g4⟩ := disp2_arcs (S := []) (a := "p") (b := "q") (z := 4) (w := 2) Al.nil np2 n3 n4 (show ("p" : Str) ≠ "q" by decide +kernel)
      refine ⟨e4, [(.inr "p", .ref t3), (.inr "q", .ref t4)], rfl, by simp, ?_⟩
      generalize upd (upd (upd (upd H3 p2 (.dK [])) t3 _) t4 _) p2 _ = H4 at i4 g4 ⊢
      generalize ([("p", 1, 3), ("q", 4, 2)] : Arcs) = A2 at i4 ok2 m1 m2 l2
      walk_at "st"
      refine s_ringMade (S := []) Al.nil i4 (arcs_self _) ok2 (by omega) (by omega) (by omega) (fun u zs H5 _ pz g5 rU => ?_)
      have nY : ((arcsBy A1 ys).map (·.1)).Nodup ∧ (arcsBy A1 ys).length ≤ 40 := ⟨by rw [arcsBy_names]; exact py.nodup_iff.mpr ok1.nd, by unfold arcsBy; rw [List.length_map, py.length_eq, List.length_map]; omega⟩
      have nZ : ((arcsBy A2 zs).map (·.1)).Nodup ∧ (arcsBy A2 zs).length ≤ 40 := ⟨by rw [arcsBy_names]; exact pz.nodup_iff.mpr ok2.nd, by unfold arcsBy; rw [List.length_map, pz.length_eq, List.length_map]; omega⟩
      have rR5 : RingR [] H5 C r 10 (arcsBy A1 ys) := by walk_at "fx"
      walk_at "st"
      intro p3 np3
      walk_at "st"
      obtain ⟨e6, i6, g6⟩ := disp2_strs (S := []) (a := "a") (b := "b") (x := "p") (y := "q") Al.nil np3 (show ("a" : Str) ≠ "b" by decide +kernel)
      refine ⟨e6, [(.inr "a", .str "p"), (.inr "b", .str "q")], rfl, by simp, ?_⟩
      generalize upd (upd H5 p3 (.dK [])) p3 _ = H6 at i6 g6 ⊢
      walk_at "st"
      refine ⟨r, u, 10, 10, 3, _, _, .ref p3, _, rfl, by walk_at "fx", by walk_at "fx", i6, by omega, by omega, by omega, nY.1, nZ.1, nY.2, nZ.2, fun H7 g7 => ?_⟩
      rw [isMapB_by py pz ok1.nd ok2.nd, m1]
      walk_at "st"
      refine ⟨_, _, rfl, rfl, ?_⟩
      walk_at "st"
      intro p4 np4
      walk_at "st"
      obtain ⟨e8, i8, g8⟩ := disp2_strs (S := []) (a := "a") (b := "b") (x := "q") (y := "p") Al.nil np4 (show ("a" : Str) ≠ "b" by decide +kernel)
      refine ⟨e8, [(.inr "a", .str "q"), (.inr "b", .str "p")], rfl, by simp, ?_⟩
      generalize upd (upd H7 p4 (.dK [])) p4 _ = H8 at i8 g8 ⊢
      walk_at "st"
      refine ⟨r, u, 10, 10, 3, _, _, .ref p4, _, rfl, by walk_at "fx", by walk_at "fx", i8, by omega, by omega, by omega, nY.1, nZ.1, nY.2, nZ.2, fun H9 g9 => ?_⟩
      rw [isMapB_by py pz ok1.nd ok2.nd, m2]
      walk_at "st"
      refine ⟨_, _, rfl, rfl, ?_⟩
      exact q _

open PySem PySem.Spec PyProof.Rows L2
abbrev PP : Program := PySem.Challenge.pw_ringnumber_k58_whole_maps_judged
abbrev CRg (K : PySem.W.Frag) : Addr := He.ga K "Ring"
def d_Ldraw : He.DefD := ⟨("_law_draw", none), "_law_draw", "_law_draw", defArgs s_Ldraw, defBody s_Ldraw, defScope s_Ldraw, [], []⟩
def d_Lpick : He.DefD := ⟨("_law_pick", none), "_law_pick", "_law_pick", defArgs s_Lpick, defBody s_Lpick, defScope s_Lpick, [], []⟩
def d_Lmixed : He.DefD := ⟨("_law_mixed", none), "_law_mixed", "_law_mixed", defArgs s_Lmixed, defBody s_Lmixed, defScope s_Lmixed, [], []⟩
def d_Lspring : He.DefD := ⟨("_law_spring", none), "_law_spring", "_law_spring", defArgs s_Lspring, defBody s_Lspring, defScope s_Lspring, [], []⟩
def d_Lw_name : He.DefD := ⟨("_law_w_name", none), "_law_w_name", "_law_w_name", defArgs s_Lw_name, defBody s_Lw_name, defScope s_Lw_name, [], []⟩
def d_Lw_names : He.DefD := ⟨("_law_w_names", none), "_law_w_names", "_law_w_names", defArgs s_Lw_names, defBody s_Lw_names, defScope s_Lw_names, [], []⟩
def d_Lr_lengths : He.DefD := ⟨("_law_r_lengths", none), "_law_r_lengths", "_law_r_lengths", defArgs s_Lr_lengths, defBody s_Lr_lengths, defScope s_Lr_lengths, [], []⟩
def d_Lr_drawn : He.DefD := ⟨("_law_r_drawn", none), "_law_r_drawn", "_law_r_drawn", defArgs s_Lr_drawn, defBody s_Lr_drawn, defScope s_Lr_drawn, [], []⟩
def d_Lsame : He.DefD := ⟨("_law_same", none), "_law_same", "_law_same", defArgs s_Lsame, defBody s_Lsame, defScope s_Lsame, [], []⟩
def d_Lloose : He.DefD := ⟨("_law_loose", none), "_law_loose", "_law_loose", defArgs s_Lloose, defBody s_Lloose, defScope s_Lloose, [], []⟩
def d_is_integer : He.DefD := ⟨("is_integer", none), "is_integer", "is_integer", defArgs s_is_integer, defBody s_is_integer, defScope s_is_integer, [], []⟩
def d_is_between : He.DefD := ⟨("is_between", none), "is_between", "is_between", defArgs s_is_between, defBody s_is_between, defScope s_is_between, [], []⟩
def d_is_list : He.DefD := ⟨("is_list", none), "is_list", "is_list", defArgs s_is_list, defBody s_is_list, defScope s_is_list, [], []⟩
def d_is_name : He.DefD := ⟨("is_name", none), "is_name", "is_name", defArgs s_is_name, defBody s_is_name, defScope s_is_name, [], []⟩
def d_check_hours : He.DefD := ⟨("check_hours", none), "check_hours", "check_hours", defArgs s_check_hours, defBody s_check_hours, defScope s_check_hours, [], []⟩
def d_are_arcs : He.DefD := ⟨("are_arcs", none), "are_arcs", "are_arcs", defArgs s_are_arcs, defBody s_are_arcs, defScope s_are_arcs, [], []⟩
def d_Ring_init : He.DefD := ⟨("Ring", some "__init__"), "__init__", "Ring.__init__", defArgs s_Ring_init, defBody s_Ring_init, defScope s_Ring_init, [], []⟩
def d_Ring_len : He.DefD := ⟨("Ring", some "__len__"), "__len__", "Ring.__len__", defArgs s_Ring_len, defBody s_Ring_len, defScope s_Ring_len, [], []⟩
def d_Ring_contains : He.DefD := ⟨("Ring", some "__contains__"), "__contains__", "Ring.__contains__", defArgs s_Ring_contains, defBody s_Ring_contains, defScope s_Ring_contains, [], []⟩
def d_Ring_hours : He.DefD := ⟨("Ring", some "hours"), "hours", "Ring.hours", defArgs s_Ring_hours, defBody s_Ring_hours, defScope s_Ring_hours, [], []⟩
def d_Ring_names : He.DefD := ⟨("Ring", some "names"), "names", "Ring.names", defArgs s_Ring_names, defBody s_Ring_names, defScope s_Ring_names, [], []⟩
def d_Ring_arc : He.DefD := ⟨("Ring", some "arc"), "arc", "Ring.arc", defArgs s_Ring_arc, defBody s_Ring_arc, defScope s_Ring_arc, [], []⟩
def d_is_map : He.DefD := ⟨("is_map", none), "is_map", "is_map", defArgs s_is_map, defBody s_is_map, defScope s_is_map, [], []⟩
def d_La_is_map : He.DefD := ⟨("_law_a_is_map", none), "_law_a_is_map", "_law_a_is_map", defArgs s_La_is_map, defBody s_La_is_map, defScope s_La_is_map, [], []⟩
def d_La_moved : He.DefD := ⟨("_law_a_moved", none), "_law_a_moved", "_law_a_moved", defArgs s_La_moved, defBody s_La_moved, defScope s_La_moved, [], []⟩
def d_La_drawn : He.DefD := ⟨("_law_a_drawn", none), "_law_a_drawn", "_law_a_drawn", defArgs s_La_drawn, defBody s_La_drawn, defScope s_La_drawn, [], []⟩
def d_La_bent : He.DefD := ⟨("_law_a_bent", none), "_law_a_bent", "_law_a_bent", defArgs s_La_bent, defBody s_La_bent, defScope s_La_bent, [], []⟩
def d_Lvery : He.DefD := ⟨("_law_very", none), "_law_very", "_law_very", defArgs s_Lvery, defBody s_Lvery, defScope s_Lvery, [], []⟩
def d_La_met : He.DefD := ⟨("_law_a_met", none), "_law_a_met", "_law_a_met", defArgs s_La_met, defBody s_La_met, defScope s_La_met, [], []⟩
def d_La_judged : He.DefD := ⟨("_law_a_judged", none), "_law_a_judged", "_law_a_judged", defArgs s_La_judged, defBody s_La_judged, defScope s_La_judged, [], []⟩
def d_law : He.DefD := ⟨("law", none), "law", "law", defArgs s_law, defBody s_law, defScope s_law, [], []⟩
def faL : List He.Fa := ([.glo "_law_draw", .glo "_law_pick", .glo "_law_mixed", .glo "_law_spring", .glo "_law_w_name", .glo "_law_w_names", .glo "_law_r_lengths", .glo "_law_r_drawn", .glo "_law_same", .glo "_law_loose", .glo "is_integer", .glo "is_between", .glo "is_list", .glo "is_name", .glo "check_hours", .glo "are_arcs", .mkr "Ring", .meth "Ring" "__len__", .meth "Ring" "__contains__", .meth "Ring" "hours", .meth "Ring" "names", .meth "Ring" "arc", .glo "is_map", .glo "_law_a_is_map", .glo "_law_a_moved", .glo "_law_a_drawn", .glo "_law_a_bent", .glo "_law_very", .glo "_law_a_met", .glo "_law_a_judged", .glo "law", .free "len", .free "isinstance", .free "int", .free "bool", .free "str", .free "list", .free "dict", .free "tuple", .free "range"] : List He.Fa) ++ ([.free "enumerate", .free "zip", .free "sorted", .free "max", .free "min", .free "all", .free "any", .free "repr", .free "sum", .free "abs", .free "super", .glo "Ring", .cls "Ring", .noat "Ring" "own_hours", .noat "Ring" "own_arcs", .int "FORTY" 40, .str "LETTERS" "abcdefghijklmnopqrstuvwxyz", .int "MOST_HOURS" 1000, .str "SIGNS" "abcdefghijklmnopqrstuvwxyz0123456789"] : List He.Fa)
def fnL : List He.DefD := [d_Ldraw, d_Lpick, d_Lmixed, d_Lspring, d_Lw_name, d_Lw_names, d_Lr_lengths, d_Lr_drawn, d_Lsame, d_Lloose, d_is_integer, d_is_between, d_is_list, d_is_name, d_check_hours, d_are_arcs, d_Ring_init, d_Ring_len, d_Ring_contains, d_Ring_hours, d_Ring_names, d_Ring_arc, d_is_map, d_La_is_map, d_La_moved, d_La_drawn, d_La_bent, d_Lvery, d_La_met, d_La_judged, d_law]
abbrev sE_BadNumber : Stmt := inClass (topS 13) 0
def er_BadNumber : ErrD := ⟨"BadNumber", "number", "BadNumber.__init__", defArgs sE_BadNumber, defBody sE_BadNumber, defScope sE_BadNumber⟩
def erL : List ErrD := [er_BadNumber]
def tfL : List He.Defn := [("_law_a_judged", none)]
theorem rz_BadNumber {w : World} {K : PySem.W.Frag} {h base : Heap} {mg : Str → Option Value} (X : K.In h) (G : h.Ns mainGlobals mg) (hS : mg "super" = none)
    (E : ExF PP K (er_BadNumber.C K) (er_BadNumber.I K) "number" "BadNumber.__init__" (defArgs sE_BadNumber) (defBody sE_BadNumber) (defScope sE_BadNumber)) (hg : PySem.W.nsIn K mainGlobals "BadNumber" = some (some (.ref (er_BadNumber.C K)))) : Rz PP w K mg base "BadNumber" (er_BadNumber.C K) "number" := by
  obtain ⟨fd, ok, b⟩ : ∃ fd, FnOk PP w K mg base CX0 0 (er_BadNumber.I K) fd ["self", "number"] (spSup (er_BadNumber.C K) "number") ∧ Binds K fd ["self", "number"] [] :=
    ok_sup E hS rfl rfl rfl rfl rfl rfl rfl rfl (by decide +kernel) (fun x hx => (by decide +kernel : ∀ y ∈ (defScope sE_BadNumber).names, y.2 = .free → y.1 = "__class__") _ (PySem.mem_of_lookup hx) rfl) rfl rfl (by decide +kernel) (by decide +kernel) (by decide +kernel) (fun env => ⟨_, rfl⟩) (fun _ _ _ _ => rfl) (fun _ => rfl) (fun _ => rfl) (by decide +kernel)
      (fun _ _ _ _ _ _ us hl => match us, hl with | [_, _], _ => rfl)
  exact ⟨PySem.W.mg_of X G hg, E.O, ⟨_, fd, E.iC, E.tI, ok, b⟩, E.noF, E.ga, E.gg, E.hdC, E.te⟩
theorem kb_is_map {K : PySem.W.Frag} {fd : FuncData} {f : Addr} (F : FunD K "is_map" "is_map" (defArgs s_is_map) (defBody s_is_map) (defScope s_is_map) [] [] f fd) : KBinds K fd ["ring", "twin", "by", "thing"] ["thing", "by", "twin", "ring"] revG revG := by
  obtain ⟨oc, od, kV, doc, pm, an, cdv, ct, osl, rfl, _, _⟩ := FunD.rec F
  refine ⟨fun s us ws _ hl => ?_, fun r1 r2 => r1.append r2.reverse⟩
  match us, ws, hl with
  | [], [_, _, _, _], _ => exact .of_eq rfl
  | [_], [_, _, _], _ => exact .of_eq rfl
  | [_, _], [_, _], _ => exact .of_eq rfl
  | [_, _, _], [_], _ => exact .of_eq rfl
  | [_, _, _, _], [], _ => exact .of_eq rfl
  | [], [], h => cases h
  | [], [_], h => cases h
  | [], [_, _], h => cases h
  | [], [_, _, _], h => cases h
  | [], _ :: _ :: _ :: _ :: _ :: _, h => simp [revG] at h
  | [_], [], h => cases h
  | [_], [_], h => cases h
  | [_], [_, _], h => cases h
  | [_], _ :: _ :: _ :: _ :: _, h => simp [revG] at h
  | [_, _], [], h => cases h
  | [_, _], [_], h => cases h
  | [_, _], _ :: _ :: _ :: _, h => simp [revG] at h
  | [_, _, _], [], h => cases h
  | [_, _, _], _ :: _ :: _, h => simp [revG] at h
  | [_, _, _, _], _ :: _, h => simp [revG] at h
  | _ :: _ :: _ :: _ :: _ :: _, _, h => simp [revG] at h
theorem facts (w : World) {K : PySem.W.Frag} {h : Heap} {mg : Str → Option Value} {fa : Addr} (X : K.In h) (G : h.Ns mainGlobals mg) (hfa : mg "law" = some (.ref fa)) (c : SaysY PP.main.file faL fnL erL tfL h K) :
    ∃ fd : FuncData, (∀ (s : Shared) (u : Value), BindsTo s fd ⟨[u], []⟩ [("script", u)]) ∧ ∀ base : Heap, K.In base → base.Ns mainGlobals mg → (∀ p ∈ tfL.map (He.cT K), LamX.TabB base mg p.1 p.2) → FnA (GG 18) PP w K mg base fa fd ["script"] (sp_law K (CRg K) (He.cT K ("_law_a_judged", none)).2) := by
  obtain ⟨fd_Ldraw, F_Ldraw⟩ := c.d.def_ 0 (d := d_Ldraw) rfl
  obtain ⟨fd_Lpick, F_Lpick⟩ := c.d.def_ 1 (d := d_Lpick) rfl
  obtain ⟨fd_Lmixed, F_Lmixed⟩ := c.d.def_ 2 (d := d_Lmixed) rfl
  obtain ⟨fd_Lspring, F_Lspring⟩ := c.d.def_ 3 (d := d_Lspring) rfl
  obtain ⟨fd_Lw_name, F_Lw_name⟩ := c.d.def_ 4 (d := d_Lw_name) rfl
  obtain ⟨fd_Lw_names, F_Lw_names⟩ := c.d.def_ 5 (d := d_Lw_names) rfl
  obtain ⟨fd_Lr_lengths, F_Lr_lengths⟩ := c.d.def_ 6 (d := d_Lr_lengths) rfl
  obtain ⟨fd_Lr_drawn, F_Lr_drawn⟩ := c.d.def_ 7 (d := d_Lr_drawn) rfl
  obtain ⟨fd_Lsame, F_Lsame⟩ := c.d.def_ 8 (d := d_Lsame) rfl
  obtain ⟨fd_Lloose, F_Lloose⟩ := c.d.def_ 9 (d := d_Lloose) rfl
  obtain ⟨fd_is_integer, F_is_integer⟩ := c.d.def_ 10 (d := d_is_integer) rfl
  obtain ⟨fd_is_between, F_is_between⟩ := c.d.def_ 11 (d := d_is_between) rfl
  obtain ⟨fd_is_list, F_is_list⟩ := c.d.def_ 12 (d := d_is_list) rfl
  obtain ⟨fd_is_name, F_is_name⟩ := c.d.def_ 13 (d := d_is_name) rfl
  obtain ⟨fd_check_hours, F_check_hours⟩ := c.d.def_ 14 (d := d_check_hours) rfl
  obtain ⟨fd_are_arcs, F_are_arcs⟩ := c.d.def_ 15 (d := d_are_arcs) rfl
  obtain ⟨fd_Ring_init, F_Ring_init⟩ := c.d.def_ 16 (d := d_Ring_init) rfl
  obtain ⟨fd_Ring_len, F_Ring_len⟩ := c.d.def_ 17 (d := d_Ring_len) rfl
  obtain ⟨fd_Ring_contains, F_Ring_contains⟩ := c.d.def_ 18 (d := d_Ring_contains) rfl
  obtain ⟨fd_Ring_hours, F_Ring_hours⟩ := c.d.def_ 19 (d := d_Ring_hours) rfl
  obtain ⟨fd_Ring_names, F_Ring_names⟩ := c.d.def_ 20 (d := d_Ring_names) rfl
  obtain ⟨fd_Ring_arc, F_Ring_arc⟩ := c.d.def_ 21 (d := d_Ring_arc) rfl
  obtain ⟨fd_is_map, F_is_map⟩ := c.d.def_ 22 (d := d_is_map) rfl
  obtain ⟨fd_La_is_map, F_La_is_map⟩ := c.d.def_ 23 (d := d_La_is_map) rfl
  obtain ⟨fd_La_moved, F_La_moved⟩ := c.d.def_ 24 (d := d_La_moved) rfl
  obtain ⟨fd_La_drawn, F_La_drawn⟩ := c.d.def_ 25 (d := d_La_drawn) rfl
  obtain ⟨fd_La_bent, F_La_bent⟩ := c.d.def_ 26 (d := d_La_bent) rfl
  obtain ⟨fd_Lvery, F_Lvery⟩ := c.d.def_ 27 (d := d_Lvery) rfl
  obtain ⟨fd_La_met, F_La_met⟩ := c.d.def_ 28 (d := d_La_met) rfl
  obtain ⟨fd_La_judged, F_La_judged⟩ := c.d.def_ 29 (d := d_La_judged) rfl
  obtain ⟨fd_law, F_law⟩ := c.d.def_ 30 (d := d_law) rfl
  have eL := hfa.symm.trans (He.glo_ok X G (c.d.fact 30 (f := .glo "law") rfl))
  cases eL
  refine ⟨fd_law, fun s u => FunD.bindsA (ps := ["script"]) F_law (fun _ _ _ _ _ _ us hl => match us, hl with | [_], _ => rfl) s [u] rfl, fun base KB GB TB => ?_⟩
  have T : Bn mg := ⟨He.free_ok X G (c.d.fact 31 (f := .free "len") rfl), He.free_ok X G (c.d.fact 32 (f := .free "isinstance") rfl), He.free_ok X G (c.d.fact 33 (f := .free "int") rfl), He.free_ok X G (c.d.fact 34 (f := .free "bool") rfl), He.free_ok X G (c.d.fact 35 (f := .free "str") rfl), He.free_ok X G (c.d.fact 36 (f := .free "list") rfl), He.free_ok X G (c.d.fact 37 (f := .free "dict") rfl), He.free_ok X G (c.d.fact 38 (f := .free "tuple") rfl), He.free_ok X G (c.d.fact 39 (f := .free "range") rfl), He.free_ok X G (c.d.fact 40 (f := .free "enumerate") rfl), He.free_ok X G (c.d.fact 41 (f := .free "zip") rfl), He.free_ok X G (c.d.fact 42 (f := .free "sorted") rfl), He.free_ok X G (c.d.fact 43 (f := .free "max") rfl), He.free_ok X G (c.d.fact 44 (f := .free "min") rfl), He.free_ok X G (c.d.fact 45 (f := .free "all") rfl), He.free_ok X G (c.d.fact 46 (f := .free "any") rfl), He.free_ok X G (c.d.fact 47 (f := .free "repr") rfl), He.free_ok X G (c.d.fact 48 (f := .free "sum") rfl), He.free_ok X G (c.d.fact 49 (f := .free "abs") rfl), He.free_ok X G (c.d.fact 50 (f := .free "super") rfl)⟩
  have RC : RingC K mg (CRg K) := ⟨He.cls_ok (c.d.fact 52 (f := .cls "Ring") rfl), He.noat_ok (c.d.fact 53 (f := .noat "Ring" "own_hours") rfl), He.noat_ok (c.d.fact 54 (f := .noat "Ring" "own_arcs") rfl)⟩
  have T_FORTY := He.int_ok X G (c.d.fact 55 (f := .int "FORTY" 40) rfl)
  have T_LETTERS := He.str_ok X G (c.d.fact 56 (f := .str "LETTERS" "abcdefghijklmnopqrstuvwxyz") rfl)
  have T_MOST_HOURS := He.int_ok X G (c.d.fact 57 (f := .int "MOST_HOURS" 1000) rfl)
  have T_SIGNS := He.str_ok X G (c.d.fact 58 (f := .str "SIGNS" "abcdefghijklmnopqrstuvwxyz0123456789") rfl)
  have Z_BadNumber : Rz PP w K mg base "BadNumber" (er_BadNumber.C K) "number" := rz_BadNumber X G T.super (c.err 0 (d := er_BadNumber) rfl).1 (c.err 0 (d := er_BadNumber) rfl).2
  have hs := c.sysM
  have K_Ldraw := ok_Ldraw (P := PP) (w := w) (K := K) (mg := mg) (base := base) T F_Ldraw
  have C_Ldraw : Df PP w K mg base CX0 1 "_law_draw" ["spring", "many"] (sp_Ldraw K) := ⟨_, fd_Ldraw, He.glo_ok X G (c.d.fact 0 (f := .glo "_law_draw") rfl), K_Ldraw, F_Ldraw.kp, F_Ldraw.bindsN (fun _ _ _ _ _ _ us hl => match us, hl with | [_, _], _ => rfl)⟩
  have K_Lpick := ok_Lpick (P := PP) (w := w) (K := K) (mg := mg) (base := base) T C_Ldraw F_Lpick
  have C_Lpick : Df PP w K mg base CX0 2 "_law_pick" ["spring", "some"] (sp_Lpick K) := ⟨_, fd_Lpick, He.glo_ok X G (c.d.fact 1 (f := .glo "_law_pick") rfl), K_Lpick, F_Lpick.kp, F_Lpick.bindsN (fun _ _ _ _ _ _ us hl => match us, hl with | [_, _], _ => rfl)⟩
  have K_Lmixed := ok_Lmixed (P := PP) (w := w) (K := K) (mg := mg) (base := base) T C_Ldraw F_Lmixed
  have C_Lmixed : Df PP w K mg base CX0 2 "_law_mixed" ["spring", "some"] (sp_Lmixed K) := ⟨_, fd_Lmixed, He.glo_ok X G (c.d.fact 2 (f := .glo "_law_mixed") rfl), K_Lmixed, F_Lmixed.kp, F_Lmixed.bindsN (fun _ _ _ _ _ _ us hl => match us, hl with | [_, _], _ => rfl)⟩
  have K_Lspring := ok_Lspring (P := PP) (w := w) (K := K) (mg := mg) (base := base) T F_Lspring
  have C_Lspring : Df PP w K mg base CX0 1 "_law_spring" ["script", "turn"] (sp_Lspring K) := ⟨_, fd_Lspring, He.glo_ok X G (c.d.fact 3 (f := .glo "_law_spring") rfl), K_Lspring, F_Lspring.kp, F_Lspring.bindsN (fun _ _ _ _ _ _ us hl => match us, hl with | [_, _], _ => rfl)⟩
  have K_Lw_name := ok_Lw_name (P := PP) (w := w) (K := K) (mg := mg) (base := base) T C_Ldraw C_Lpick F_Lw_name
  have C_Lw_name : Df PP w K mg base CX0 3 "_law_w_name" ["spring"] (sp_Lw_name K) := ⟨_, fd_Lw_name, He.glo_ok X G (c.d.fact 4 (f := .glo "_law_w_name") rfl), K_Lw_name, F_Lw_name.kp, F_Lw_name.bindsN (fun _ _ _ _ _ _ us hl => match us, hl with | [_], _ => rfl)⟩
  have K_Lw_names := ok_Lw_names (P := PP) (w := w) (K := K) (mg := mg) (base := base) T C_Lw_name C_Ldraw C_Lpick F_Lw_names
  have C_Lw_names : Df PP w K mg base CX0 4 "_law_w_names" ["spring", "many"] (sp_Lw_names K) := ⟨_, fd_Lw_names, He.glo_ok X G (c.d.fact 5 (f := .glo "_law_w_names") rfl), K_Lw_names, F_Lw_names.kp, F_Lw_names.bindsN (fun _ _ _ _ _ _ us hl => match us, hl with | [_, _], _ => rfl)⟩
  have K_Lr_lengths := ok_Lr_lengths (P := PP) (w := w) (K := K) (mg := mg) (base := base) T C_Ldraw C_Lpick F_Lr_lengths
  have C_Lr_lengths : Df PP w K mg base CX0 3 "_law_r_lengths" ["spring", "hours", "many"] (sp_Lr_lengths K) := ⟨_, fd_Lr_lengths, He.glo_ok X G (c.d.fact 6 (f := .glo "_law_r_lengths") rfl), K_Lr_lengths, F_Lr_lengths.kp, F_Lr_lengths.bindsN (fun _ _ _ _ _ _ us hl => match us, hl with | [_, _, _], _ => rfl)⟩
  have K_Lr_drawn := ok_Lr_drawn (P := PP) (w := w) (K := K) (mg := mg) (base := base) T C_Lpick C_Lr_lengths C_Lw_names C_Ldraw F_Lr_drawn
  have C_Lr_drawn : Df PP w K mg base CX0 5 "_law_r_drawn" ["spring", "many"] (sp_Lr_drawn K) := ⟨_, fd_Lr_drawn, He.glo_ok X G (c.d.fact 7 (f := .glo "_law_r_drawn") rfl), K_Lr_drawn, F_Lr_drawn.kp, F_Lr_drawn.bindsN (fun _ _ _ _ _ _ us hl => match us, hl with | [_, _], _ => rfl)⟩
  have R_Lsame : ∀ n, FnOk PP w K mg base CX0 (0 + n) (He.fAd K d_Lsame.at_) fd_Lsame ["found", "due"] (sp_LsameN K n) := fun n => by
    induction n with
    | zero => exact fn_void void_Lsame
    | succ n ih => exact ok_Lsame T (by omega) ⟨_, fd_Lsame, He.glo_ok X G (c.d.fact 8 (f := .glo "_law_same") rfl), ih, F_Lsame.kp, F_Lsame.bindsN (fun _ _ _ _ _ _ us hl => match us, hl with | [_, _], _ => rfl)⟩ F_Lsame
  have C_Lsame : Df PP w K mg base CX0 13 "_law_same" ["found", "due"] (sp_Lsame K) := ⟨_, fd_Lsame, He.glo_ok X G (c.d.fact 8 (f := .glo "_law_same") rfl), (R_Lsame 10).mono (by decide), F_Lsame.kp, F_Lsame.bindsN (fun _ _ _ _ _ _ us hl => match us, hl with | [_, _], _ => rfl)⟩
  have R_Lloose : ∀ n, FnOk PP w K mg base CX0 (3 + n) (He.fAd K d_Lloose.at_) fd_Lloose ["spring", "thing"] (sp_LlooseN K n) := fun n => by
    induction n with
    | zero => exact fn_void void_Lloose
    | succ n ih => exact ok_Lloose T C_Lmixed C_Ldraw (by omega) ⟨_, fd_Lloose, He.glo_ok X G (c.d.fact 9 (f := .glo "_law_loose") rfl), ih, F_Lloose.kp, F_Lloose.bindsN (fun _ _ _ _ _ _ us hl => match us, hl with | [_, _], _ => rfl)⟩ F_Lloose
  have C_Lloose : Df PP w K mg base CX0 16 "_law_loose" ["spring", "thing"] (sp_Lloose K) := ⟨_, fd_Lloose, He.glo_ok X G (c.d.fact 9 (f := .glo "_law_loose") rfl), (R_Lloose 13).mono (by decide), F_Lloose.kp, F_Lloose.bindsN (fun _ _ _ _ _ _ us hl => match us, hl with | [_, _], _ => rfl)⟩
  have K_is_integer := ok_is_integer (P := PP) (w := w) (K := K) (mg := mg) (base := base) T F_is_integer
  have C_is_integer : Df PP w K mg base CX0 1 "is_integer" ["thing"] (sp_is_integer K) := ⟨_, fd_is_integer, He.glo_ok X G (c.d.fact 10 (f := .glo "is_integer") rfl), K_is_integer, F_is_integer.kp, F_is_integer.bindsN (fun _ _ _ _ _ _ us hl => match us, hl with | [_], _ => rfl)⟩
  have K_is_between := ok_is_between (P := PP) (w := w) (K := K) (mg := mg) (base := base) T C_is_integer F_is_between
  have C_is_between : Df PP w K mg base CX0 2 "is_between" ["thing", "low", "high"] (sp_is_between K) := ⟨_, fd_is_between, He.glo_ok X G (c.d.fact 11 (f := .glo "is_between") rfl), K_is_between, F_is_between.kp, F_is_between.bindsN (fun _ _ _ _ _ _ us hl => match us, hl with | [_, _, _], _ => rfl)⟩
  have K_is_list := ok_is_list (P := PP) (w := w) (K := K) (mg := mg) (base := base) T F_is_list
  have C_is_list : Df PP w K mg base CX0 1 "is_list" ["thing"] (sp_is_list K) := ⟨_, fd_is_list, He.glo_ok X G (c.d.fact 12 (f := .glo "is_list") rfl), K_is_list, F_is_list.kp, F_is_list.bindsN (fun _ _ _ _ _ _ us hl => match us, hl with | [_], _ => rfl)⟩
  have K_is_name := ok_is_name (P := PP) (w := w) (K := K) (mg := mg) (base := base) T T_LETTERS T_SIGNS F_is_name
  have C_is_name : Df PP w K mg base CX0 1 "is_name" ["thing"] (sp_is_name K) := ⟨_, fd_is_name, He.glo_ok X G (c.d.fact 13 (f := .glo "is_name") rfl), K_is_name, F_is_name.kp, F_is_name.bindsN (fun _ _ _ _ _ _ us hl => match us, hl with | [_], _ => rfl)⟩
  have K_check_hours := ok_check_hours (P := PP) (w := w) (K := K) (mg := mg) (base := base) T C_is_between T_MOST_HOURS F_check_hours
  have C_check_hours : Df PP w K mg base CX0 3 "check_hours" ["hours"] (sp_check_hours K) := ⟨_, fd_check_hours, He.glo_ok X G (c.d.fact 14 (f := .glo "check_hours") rfl), K_check_hours, F_check_hours.kp, F_check_hours.bindsN (fun _ _ _ _ _ _ us hl => match us, hl with | [_], _ => rfl)⟩
  have K_are_arcs := ok_are_arcs (P := PP) (w := w) (K := K) (mg := mg) (base := base) T C_is_list C_is_name C_is_between T_FORTY F_are_arcs
  have C_are_arcs : Df PP w K mg base CX0 3 "are_arcs" ["hours", "thing"] (sp_are_arcs K) := ⟨_, fd_are_arcs, He.glo_ok X G (c.d.fact 15 (f := .glo "are_arcs") rfl), K_are_arcs, F_are_arcs.kp, F_are_arcs.bindsN (fun _ _ _ _ _ _ us hl => match us, hl with | [_, _], _ => rfl)⟩
  have K_Ring_init := ok_Ring_init (P := PP) (w := w) (K := K) (mg := mg) (base := base) T RC C_check_hours C_are_arcs F_Ring_init
  have C_new_Ring : C8.Mak PP w K mg base 4 "Ring" (CRg K) (sp_Ring_init K (CRg K)) [] := ⟨_, fd_Ring_init, _, [], He.mkr_ok (c.d.fact 16 (f := .mkr "Ring") rfl), K_Ring_init, He.glo_ok X G (c.d.fact 51 (f := .glo "Ring") rfl), F_Ring_init.bindsN (fun _ _ _ _ _ _ us hl => match us, hl with | [_, _, _], _ => rfl), .nil⟩
  have K_Ring_len := ok_Ring_len (P := PP) (w := w) (K := K) (mg := mg) (base := base) T RC F_Ring_len
  have C_Ring_len : Mt PP w K mg base (CRg K) 1 "__len__" ["self"] (sp_Ring_len K (CRg K)) := ⟨_, fd_Ring_len, RC.cls, He.meth_ok (c.d.fact 17 (f := .meth "Ring" "__len__") rfl), K_Ring_len, F_Ring_len.bindsN (fun _ _ _ _ _ _ us hl => match us, hl with | [_], _ => rfl)⟩
  have K_Ring_contains := ok_Ring_contains (P := PP) (w := w) (K := K) (mg := mg) (base := base) T RC F_Ring_contains
  have C_Ring_contains : Mt PP w K mg base (CRg K) 1 "__contains__" ["self", "name"] (sp_Ring_contains K (CRg K)) := ⟨_, fd_Ring_contains, RC.cls, He.meth_ok (c.d.fact 18 (f := .meth "Ring" "__contains__") rfl), K_Ring_contains, F_Ring_contains.bindsN (fun _ _ _ _ _ _ us hl => match us, hl with | [_, _], _ => rfl)⟩
  have K_Ring_hours := ok_Ring_hours (P := PP) (w := w) (K := K) (mg := mg) (base := base) T RC F_Ring_hours
  have C_Ring_hours : Mt PP w K mg base (CRg K) 1 "hours" ["self"] (sp_Ring_hours K (CRg K)) := ⟨_, fd_Ring_hours, RC.cls, He.meth_ok (c.d.fact 19 (f := .meth "Ring" "hours") rfl), K_Ring_hours, F_Ring_hours.bindsN (fun _ _ _ _ _ _ us hl => match us, hl with | [_], _ => rfl)⟩
  have K_Ring_names := ok_Ring_names (P := PP) (w := w) (K := K) (mg := mg) (base := base) T RC F_Ring_names
  have C_Ring_names : Mt PP w K mg base (CRg K) 1 "names" ["self"] (sp_Ring_names K (CRg K)) := ⟨_, fd_Ring_names, RC.cls, He.meth_ok (c.d.fact 20 (f := .meth "Ring" "names") rfl), K_Ring_names, F_Ring_names.bindsN (fun _ _ _ _ _ _ us hl => match us, hl with | [_], _ => rfl)⟩
  have K_Ring_arc := ok_Ring_arc (P := PP) (w := w) (K := K) (mg := mg) (base := base) T RC C_Ring_contains F_Ring_arc
  have C_Ring_arc : Mt PP w K mg base (CRg K) 2 "arc" ["self", "name"] (sp_Ring_arc K (CRg K)) := ⟨_, fd_Ring_arc, RC.cls, He.meth_ok (c.d.fact 21 (f := .meth "Ring" "arc") rfl), K_Ring_arc, F_Ring_arc.bindsN (fun _ _ _ _ _ _ us hl => match us, hl with | [_, _], _ => rfl)⟩
  have K_is_map := ok_is_map (P := PP) (w := w) (K := K) (mg := mg) (base := base) T RC C_is_between C_Ring_hours C_Ring_names C_Ring_arc C_Ring_len C_Ring_contains F_is_map
  have C_is_map : Df PP w K mg base CX0 3 "is_map" ["ring", "twin", "by", "thing"] (sp_is_map K (CRg K)) := ⟨_, fd_is_map, He.glo_ok X G (c.d.fact 22 (f := .glo "is_map") rfl), K_is_map, F_is_map.kp, F_is_map.bindsN (fun _ _ _ _ _ _ us hl => match us, hl with | [_, _, _, _], _ => rfl)⟩
  have CK_is_map : DfK PP w K mg base CX0 4 "is_map" ["ring", "twin", "by", "thing"] ["thing", "by", "twin", "ring"] (sp_is_map K (CRg K)) := ⟨_, fd_is_map, He.glo_ok X G (c.d.fact 22 (f := .glo "is_map") rfl), K_is_map.mono (by decide), F_is_map.kp, kb_is_map F_is_map⟩
  have K_La_is_map := ok_La_is_map (P := PP) (w := w) (K := K) (mg := mg) (base := base) T F_La_is_map
  have C_La_is_map : Df PP w K mg base CX0 1 "_law_a_is_map" ["hours", "arcs", "other", "by", "thing"] (sp_La_is_map K) := ⟨_, fd_La_is_map, He.glo_ok X G (c.d.fact 23 (f := .glo "_law_a_is_map") rfl), K_La_is_map, F_La_is_map.kp, F_La_is_map.bindsN (fun _ _ _ _ _ _ us hl => match us, hl with | [_, _, _, _, _], _ => rfl)⟩
  have K_La_moved := ok_La_moved (P := PP) (w := w) (K := K) (mg := mg) (base := base) T C_Lw_names C_Lmixed F_La_moved
  have C_La_moved : Df PP w K mg base CX0 5 "_law_a_moved" ["spring", "hours", "arcs", "by"] (sp_La_moved K) := ⟨_, fd_La_moved, He.glo_ok X G (c.d.fact 24 (f := .glo "_law_a_moved") rfl), K_La_moved, F_La_moved.kp, F_La_moved.bindsN (fun _ _ _ _ _ _ us hl => match us, hl with | [_, _, _, _], _ => rfl)⟩
  have K_La_drawn := ok_La_drawn (P := PP) (w := w) (K := K) (mg := mg) (base := base) T C_Lr_drawn C_Ldraw C_Lpick C_Lw_names F_La_drawn
  have C_La_drawn : Df PP w K mg base CX0 6 "_law_a_drawn" ["spring", "many"] (sp_La_drawn K) := ⟨_, fd_La_drawn, He.glo_ok X G (c.d.fact 25 (f := .glo "_law_a_drawn") rfl), K_La_drawn, F_La_drawn.kp, F_La_drawn.bindsN (fun _ _ _ _ _ _ us hl => match us, hl with | [_, _], _ => rfl)⟩
  have K_La_bent := ok_La_bent (P := PP) (w := w) (K := K) (mg := mg) (base := base) T C_Ldraw C_Lpick F_La_bent
  have C_La_bent : Df PP w K mg base CX0 3 "_law_a_bent" ["spring", "found", "other"] (sp_La_bent K) := ⟨_, fd_La_bent, He.glo_ok X G (c.d.fact 26 (f := .glo "_law_a_bent") rfl), K_La_bent, F_La_bent.kp, F_La_bent.bindsN (fun _ _ _ _ _ _ us hl => match us, hl with | [_, _, _], _ => rfl)⟩
  have K_LsameW := ok_LsameW (P := PP) (w := w) (K := K) (mg := mg) (base := base) T F_Lsame
  have W_Lsame : DfA (GH 1) PP w K mg base "_law_same" ["found", "due"] (sp_LsameW K) := ⟨_, fd_Lsame, He.glo_ok X G (c.d.fact 8 (f := .glo "_law_same") rfl), K_LsameW, F_Lsame.kp, F_Lsame.bindsN (fun _ _ _ _ _ _ us hl => match us, hl with | [_, _], _ => rfl)⟩
  have K_LveryW := ok_LveryW (P := PP) (w := w) (K := K) (mg := mg) (base := base) T W_Lsame F_Lvery
  have Dv : DfA (GH 2) PP w K mg base "_law_very" ["kept", "thing"] (sp_LveryW K) := ⟨_, fd_Lvery, He.glo_ok X G (c.d.fact 27 (f := .glo "_law_very") rfl), K_LveryW, F_Lvery.kp, F_Lvery.bindsN (fun _ _ _ _ _ _ us hl => match us, hl with | [_, _], _ => rfl)⟩
  have K_is_mapR := ok_is_mapR (P := PP) (w := w) (K := K) (mg := mg) (base := base) T RC C_is_between C_Ring_hours Z_BadNumber F_is_map
  have CR_is_map : Df PP w K mg base (L2.CX PP w) 3 "is_map" ["ring", "twin", "by", "thing"] (sp_is_mapR K (CRg K) (er_BadNumber.C K)) := ⟨_, fd_is_map, He.glo_ok X G (c.d.fact 22 (f := .glo "is_map") rfl), K_is_mapR, F_is_map.kp, F_is_map.bindsN (fun _ _ _ _ _ _ us hl => match us, hl with | [_, _, _, _], _ => rfl)⟩
  have MG : ∃ (g : Addr) (oc : Value) (od : Option Addr) (dV kV doc pm : Value) (an : Option Addr) (cdv ct : Value) (osl : Array (Option Value)), mg "_law_a_met" = some (.ref g) ∧ PySem.W.keepIn K (.ref g) = true ∧ K.lookup g = some ⟨oc, od, .func (PySem.W.fnOf "_law_a_met" "_law_a_met" (defArgs s_La_met) (defBody s_La_met) (defScope s_La_met) dV kV doc pm an cdv ct), osl⟩ ∧ PySem.W.codeIn K cdv "_law_a_met" = true ∧ L2.Binds K (PySem.W.fnOf "_law_a_met" "_law_a_met" (defArgs s_La_met) (defBody s_La_met) (defScope s_La_met) dV kV doc pm an cdv ct) ["call", "thing"] [] := by
    obtain ⟨oc, od, kV, doc, pm, an, cdv, ct, osl, e, lk, hcd⟩ := FunD.rec F_La_met
    subst e
    exact ⟨_, oc, od, .none, kV, doc, pm, an, cdv, ct, osl, He.glo_ok X G (c.d.fact 28 (f := .glo "_law_a_met") rfl), F_La_met.kp, lk, hcd, F_La_met.bindsN (fun _ _ _ _ _ _ us hl => match us, hl with | [_, _], _ => rfl)⟩
  have K_La_judgedJ := ok_La_judged (P := PP) (w := w) (K := K) (mg := mg) (base := base) T RC C_new_Ring C_Lloose C_La_bent C_Ldraw C_La_is_map C_Lmixed C_is_map C_Lsame CK_is_map CR_is_map Z_BadNumber Dv hs MG F_La_judged (SaysY.code F_La_judged) (TB _ (List.mem_cons_self))
  have C_La_judged : DfA (GG 17) PP w K mg base "_law_a_judged" ["spring", "hours", "arcs", "other", "by", "found"] (sp_La_judged K (CRg K) (He.cT K ("_law_a_judged", none)).2) := ⟨_, fd_La_judged, He.glo_ok X G (c.d.fact 29 (f := .glo "_law_a_judged") rfl), K_La_judgedJ, F_La_judged.kp, F_La_judged.bindsN (fun _ _ _ _ _ _ us hl => match us, hl with | [_, _, _, _, _, _], _ => rfl)⟩
  have K_lawL := ok_law (P := PP) (w := w) (K := K) (mg := mg) (base := base) T RC C_Lspring C_La_drawn C_Lpick C_Ldraw C_La_moved C_is_map C_new_Ring C_La_judged F_law
  exact K_lawL
abbrev hkY : PySem.W.Hook := hookY PP.main.file 6 faL fnL erL tfL
abbrev RowL : PySem.W.OpenRow := PySem.W.OpenLaw.row PySem.Challenge.rw_ringnumber_k58_whole_maps_judged
def obL (s : PySem.W.SharedT) : AlY := obsY PP.main.file 6 faL fnL erL tfL (HandSHeadRun.getT s)
theorem obL_eq (s : PySem.W.SharedT) : obL s = hkY.obs s.abs := obsY_eq (HandSHeadRun.getT_eq s)
def looseL : List Str := (["_wall", "__name__", "LETTERS", "SIGNS", "is_integer", "is_between", "is_list", "is_name", "RingError", "BadHours", "BadArcs", "NoArc", "BadNumber", "is_map", "MOST_HOURS", "FORTY", "check_hours", "are_arcs", "Ring", "_law_spring"] : List Str) ++ (["_law_draw", "_law_pick", "_law_mixed", "_law_very", "_law_same", "_law_loose", "_law_w_name", "_law_w_names", "_law_r_lengths", "_law_r_drawn", "_law_r_full", "_law_r_covers", "_law_r_meet", "_law_a_is_map", "_law_a_moved", "_law_a_bag", "_law_a_hours", "_law_a_mirrored", "_law_a_drawn", "_law_a_bent"] : List Str) ++ (["_law_a_met", "_law_a_judged"] : List Str)
set_option maxHeartbeats 0 in
theorem runL (w : World) : HandSHeadRun.RunEq RowL (PySem.W.view RowL.prog [46]) hkY obL 12000 looseL w := by
  intro os
  kernel_rfl
end RG
open PySem PySem.W PySem.Calls PyProof.Rows
set_option maxRecDepth 100000 in
set_option maxHeartbeats 0 in
theorem PySem.Challenge.cw_ringnumber_k58_whole_maps_judged_holds : PySem.Challenge.rw_ringnumber_k58_whole_maps_judged.Holds := by
  w_on; o_law
  refine HandSHeadRun.head_any (r := OpenLaw.row PySem.Challenge.rw_ringnumber_k58_whole_maps_judged) (q := view (OpenLaw.row PySem.Challenge.rw_ringnumber_k58_whole_maps_judged).prog [46]) (H := RG.hkY) (ob := RG.obL) (M := 12000) (loose := RG.looseL) (d := HandSHeadRun.topDef (OpenLaw.row PySem.Challenge.rw_ringnumber_k58_whole_maps_judged).prog 46) (kwd := []) RG.obL_eq
    (by kernel_rfl) (fun s => by kernel_rfl) RG.runL (by kernel_rfl) (by kernel_rfl) (by kernel_rfl) (by rfl) (by first | assumption | decide +kernel) (by decide +kernel) ⟨rfl, rfl, rfl, rfl, rfl, by decide +kernel⟩ ?hw ?hc
  case hw => w_witness2
  case hc =>
    refine RG.walkA (l := PySem.Challenge.rw_ringnumber_k58_whole_maps_judged) (n := 63) (x := "script") (G := RG.GG 18) rfl (by decide) (by kernel_rfl) ⟨⟨rfl, by decide, by decide⟩, rfl⟩ ?F
    intro w mg fa h Y G hmg0
    obtain ⟨K, KX, c⟩ := Y
    have hmg : mg ("law" : PySem.Str) = some (.ref fa) := by
      have e : (HandSHeadRun.topDef (OpenLaw.row PySem.Challenge.rw_ringnumber_k58_whole_maps_judged).prog 46).name = ("law" : PySem.Str) := by kernel_rfl
      rw [← e]
      exact hmg0
    obtain ⟨fd, hb, hF⟩ := RG.facts w KX G hmg c
    refine ⟨K, fd, RG.tfL.map (He.cT K), _, KX, fun p hp => ?_, fun p hp => ?_, fun p hp => ?_, hb, fun H a ns hl _ hT hS => ?_, hF⟩
    · obtain ⟨t, ht, rfl⟩ := List.mem_map.mp hp
      exact (c.tb t ht).2.2
    · obtain ⟨t, ht, rfl⟩ := List.mem_map.mp hp
      exact (c.tb t ht).2.1
    · obtain ⟨t, ht, rfl⟩ := List.mem_map.mp hp
      exact PySem.W.codeHd_of_K KX (c.tb t ht).1
    · exact ⟨a, ns, rfl, hS, hl, hT _ List.mem_cons_self, fun _ => rfl⟩
