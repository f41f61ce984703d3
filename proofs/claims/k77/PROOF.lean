import PyProof.Rows.All
import Wide.All
import OpenK.AllK
import Wide.FinOn
import HandS.ForMost
import HandS.Defaults
import HandS.IsInst
import HandS.DictComp
import HandS.ListItems
import HandS.Style
import HandS.Zip
import KE.KIntText
import HandS.More
import HandS.TryOnly
import KE.KDictZip
import HandS.FStrTup
import PyProof.ReprRoads
import HandS.Small
import HandS.Exc
import HandS.ExcInit
import KE.KExcSuper
import HandS.Lambda
import HandS.HotCalls
import HandS.EndBits
import HandS.EndTab
import KE.KNestM
import HandS.Head0
import HandS.Head1
import HandS.Head2
import HandS.HeadHook4
import KE.KStateDown
import PySem.Challenge.RW_ringnumber_k77_whole_all_starts_at_once
set_option Elab.async false
set_option linter.all false
set_option maxRecDepth 100000
set_option maxHeartbeats 4000000
/-! ground of the proofs: what stays of the heap, data that nobody changes, short rules -/
namespace RG
open PySem PySem.Spec PyProof.Rows L2

/-! ### what stays -/
/-- all objects but those at S stay as they are, none goes -/
structure Nx (S : List Addr) (H H' : Hp) : Prop where
  kp : ∀ a o, a ∉ S → H a = some o → H' a = some o
  th : ∀ a, H a ≠ none → H' a ≠ none
theorem Nx.refl (S : List Addr) (H : Hp) : Nx S H H := ⟨fun _ _ _ h => h, fun _ h => h⟩
theorem Nx.trans {S : List Addr} {H H1 H2 : Hp} (a : Nx S H H1) (b : Nx S H1 H2) : Nx S H H2 :=
  ⟨fun c o hc h => b.kp c o hc (a.kp c o hc h), fun c h => b.th c (a.th c h)⟩
theorem Nx.mono {S S' : List Addr} {H H1 : Hp} (a : Nx S H H1) (h : ∀ x ∈ S, x ∈ S') : Nx S' H H1 :=
  ⟨fun c o hc e => a.kp c o (fun z => hc (h c z)) e, a.th⟩
theorem Nx.of0 {S : List Addr} {H H1 : Hp} (a : Nx [] H H1) : Nx S H H1 := a.mono (fun _ z => absurd z (by simp))
theorem Nx.new {S : List Addr} {H : Hp} {p : Addr} {o : HO} (n : H p = none) : Nx S H (upd H p o) :=
  ⟨fun c u _ e => by rw [upd_ne (ne_of_none e n)]; exact e, fun c e => by
    by_cases h : c = p
    · subst h; rw [upd_same]; simp
    · rw [upd_ne h]; exact e⟩
theorem Nx.put {S : List Addr} {H : Hp} {p : Addr} {o : HO} (h : p ∈ S) : Nx S H (upd H p o) :=
  ⟨fun c u hc e => by rw [upd_ne (fun z => hc (by rw [z]; exact h))]; exact e, fun c e => by
    by_cases h : c = p
    · subst h; rw [upd_same]; simp
    · rw [upd_ne h]; exact e⟩
theorem Nx.fresh {S : List Addr} {H H' : Hp} (g : Nx S H H') {p : Addr} (h : H' p = none) : H p = none := by
  cases e : H p with
  | none => rfl
  | some o => exact absurd h (g.th p (by rw [e]; simp))
/-- what was written at p, new in H, does not count -/
theorem Nx.drop {S : List Addr} {p : Addr} {H H' : Hp} (g : Nx (p :: S) H H') (n : H p = none) : Nx S H H' :=
  ⟨fun c o hc e => g.kp c o (fun z => by
    rcases List.mem_cons.mp z with z | z
    · rw [z, n] at e; cases e
    · exact hc z) e, g.th⟩
theorem Nx.newP {S : List Addr} {H H1 : Hp} {p : Addr} {o : HO} (g : Nx S H H1) (n : H1 p = none) : Nx S H (upd H1 p o) := g.trans (.new n)
theorem Nx.putP {S : List Addr} {H H1 : Hp} {p : Addr} {o : HO} (g : Nx S H H1) (h : p ∈ S) : Nx S H (upd H1 p o) := g.trans (.put h)

/-- the addresses of S are taken -/
def Al (S : List Addr) (H : Hp) : Prop := ∀ a ∈ S, H a ≠ none
theorem Al.mono {S T : List Addr} {H H' : Hp} (h : Al S H) (g : Nx T H H') : Al S H' := fun a ha => g.th a (h a ha)
theorem Al.ne {S : List Addr} {H : Hp} (h : Al S H) {p : Addr} (n : H p = none) : p ∉ S := fun z => h p z n
theorem Al.nil {H : Hp} : Al [] H := fun _ z => absurd z (by simp)
theorem Al.cons {S : List Addr} {H : Hp} {p : Addr} {o : HO} (h : Al S H) (e : H p = some o) : Al (p :: S) H := fun a ha => by
  rcases List.mem_cons.mp ha with z | z
  · rw [z, e]; simp
  · exact h a z
theorem Al.one {H : Hp} {p : Addr} {o : HO} (e : H p = some o) : Al [p] H := Al.nil.cons e
theorem Al.new {S : List Addr} {H : Hp} {p : Addr} {o : HO} (h : Al S H) (n : H p = none) : Al (p :: S) (upd H p o) := (h.mono (T := []) (.new n)).cons upd_same

theorem Nx.of0' {S T : List Addr} {H H' : Hp} (g : Nx T H H') (h : Al S H) {a : Addr} (ha : a ∈ S) : H' a ≠ none := g.th a (h a ha)
/-- an object of one's own, beside S -/
structure Ow (S : List Addr) (H : Hp) (p : Addr) (o : HO) : Prop where
  ni : p ∉ S
  at_ : H p = some o
theorem Ow.mono {S : List Addr} {H H' : Hp} {p : Addr} {o : HO} (g : Nx S H H') (h : Ow S H p o) : Ow S H' p o := ⟨h.ni, g.kp p o h.ni h.at_⟩
theorem Ow.new {S : List Addr} {H : Hp} {p : Addr} {o : HO} (a : Al S H) (n : H p = none) : Ow S (upd H p o) p o := ⟨a.ne n, upd_same⟩

/-! ### data that nobody changes (nothing of it stands at S) -/
def kD : Key → PyData
  | .inl i => .int i
  | .inr x => .str x
theorem kD_inj : ∀ {k l : Key}, kD k = kD l → k = l
  | .inl i, .inl j, h => by cases h; rfl
  | .inr x, .inr y, h => by cases h; rfl
  | .inl i, .inr y, h => by cases h
  | .inr x, .inl j, h => by cases h
mutual
inductive Im (S : List Addr) (H : Hp) : V → PyData → Prop
  | non : Im S H .non .none
  | bl (b : Bool) : Im S H (.bl b) (.bool b)
  | int (i : Int) : Im S H (.int i) (.int i)
  | str (x : Str) : Im S H (.str x) (.str x)
  | lst {a : Addr} {xs : List V} {ds : List PyData} : a ∉ S → Rd H a (.lst xs) → ImAll S H xs ds → Im S H (.ref a) (.list ds)
  | tup {a : Addr} {xs : List V} {ds : List PyData} : a ∉ S → Rd H a (.tup xs) → ImAll S H xs ds → Im S H (.ref a) (.tuple ds)
  | dct {a : Addr} {kvs : List (Key × V)} {ds : List (PyData × PyData)} : a ∉ S → Rd H a (.dK kvs) → (kvs.map (·.1)).Nodup → ImKv S H kvs ds → Im S H (.ref a) (.dict ds)
inductive ImAll (S : List Addr) (H : Hp) : List V → List PyData → Prop
  | nil : ImAll S H [] []
  | cons {v : V} {vs : List V} {d : PyData} {ds : List PyData} : Im S H v d → ImAll S H vs ds → ImAll S H (v :: vs) (d :: ds)
inductive ImKv (S : List Addr) (H : Hp) : List (Key × V) → List (PyData × PyData) → Prop
  | nil : ImKv S H [] []
  | cons {k : Key} {v : V} {vs : List (Key × V)} {d : PyData} {ds : List (PyData × PyData)} : Im S H v d → ImKv S H vs ds → ImKv S H ((k, v) :: vs) ((kD k, d) :: ds)
end
/-- what is read beside S is read as before -/
structure NF (u : HO) : Prop where
  fz : ∀ o v, u ≠ .frz o v
  tb : ∀ ps, u ≠ .tbl ps
theorem NF.l {xs : List V} : NF (.lst xs) := ⟨fun _ _ z => (by cases z), fun _ z => (by cases z)⟩
theorem NF.t {xs : List V} : NF (.tup xs) := ⟨fun _ _ z => (by cases z), fun _ z => (by cases z)⟩
theorem NF.d {xs : List (Key × V)} : NF (.dK xs) := ⟨fun _ _ z => (by cases z), fun _ z => (by cases z)⟩
def Rx (S : List Addr) (H H' : Hp) : Prop := ∀ a u, a ∉ S → NF u → Rd H a u → Rd H' a u
theorem Nx.rx {S : List Addr} {H H' : Hp} (g : Nx S H H') : Rx S H H' := fun a u hs _ r => by
  rcases r with r | ⟨o, r⟩
  · exact .inl (g.kp a _ hs r)
  · exact .inr ⟨o, g.kp a _ hs r⟩
theorem Rx.refl (S : List Addr) (H : Hp) : Rx S H H := fun _ _ _ _ r => r
theorem Rx.trans {S : List Addr} {H H1 H2 : Hp} (a : Rx S H H1) (b : Rx S H1 H2) : Rx S H H2 := fun c u hc n r => b c u hc n (a c u hc n r)
theorem Rx.mono {S S' : List Addr} {H H1 : Hp} (a : Rx S H H1) (h : ∀ x ∈ S, x ∈ S') : Rx S' H H1 := fun c u hc n r => a c u (fun z => hc (h c z)) n r
theorem Rx.mono0 {S : List Addr} {H H1 : Hp} (a : Rx [] H H1) : Rx S H H1 := a.mono (fun _ z => absurd z (by simp))
theorem Rx.lock {S : List Addr} {H : Hp} {d : Addr} {u : HO} {od : Obj} (h : H d = some u) (nf : NF u) : Rx S H (upd H d (.frz od u)) := fun a w hs hw r => by
  by_cases e : a = d
  · subst e
    rcases r with r | ⟨o, r⟩
    · rw [h] at r; cases r; exact .inr ⟨od, upd_same⟩
    · rw [h] at r; cases r; exact absurd rfl (nf.fz _ _)
  · rcases r with r | ⟨o, r⟩
    · exact .inl (by rw [upd_ne e]; exact r)
    · exact .inr ⟨o, by rw [upd_ne e]; exact r⟩
theorem Rx.unlock {S : List Addr} {H : Hp} {d : Addr} {u : HO} {od : Obj} (h : H d = some (.frz od u)) : Rx S H (upd H d u) := fun a w hs hw r => by
  by_cases e : a = d
  · subst e
    rcases r with r | ⟨o, r⟩
    · rw [h] at r; cases r; exact absurd rfl (hw.fz _ _)
    · rw [h] at r; cases r; exact .inl upd_same
  · rcases r with r | ⟨o, r⟩
    · exact .inl (by rw [upd_ne e]; exact r)
    · exact .inr ⟨o, by rw [upd_ne e]; exact r⟩
section
variable {S : List Addr} {H H' : Hp}
mutual
theorem Im.rx (g : Rx S H H') : ∀ (d : PyData) {v : V}, Im S H v d → Im S H' v d
  | .none, _, h => by cases h; exact .non
  | .bool b, _, h => by cases h; exact .bl b
  | .int i, _, h => by cases h; exact .int i
  | .str x, _, h => by cases h; exact .str x
  | .list ds, _, h => by
    cases h with
    | lst n r a => exact .lst n (g _ _ n .l r) (ImAll.rx g ds a)
  | .tuple ds, _, h => by
    cases h with
    | tup n r a => exact .tup n (g _ _ n .t r) (ImAll.rx g ds a)
  | .dict ds, _, h => by
    cases h with
    | dct n r nd a => exact .dct n (g _ _ n .d r) nd (ImKv.rx g ds a)
theorem ImAll.rx (g : Rx S H H') : ∀ (ds : List PyData) {vs : List V}, ImAll S H vs ds → ImAll S H' vs ds
  | [], _, h => by cases h; exact .nil
  | d :: ds, _, h => by
    cases h with
    | cons a b => exact .cons (Im.rx g d a) (ImAll.rx g ds b)
theorem ImKv.rx (g : Rx S H H') : ∀ (ds : List (PyData × PyData)) {vs : List (Key × V)}, ImKv S H vs ds → ImKv S H' vs ds
  | [], _, h => by cases h; exact .nil
  | (k, d) :: ds, _, h => by
    cases h with
    | cons a b => exact .cons (Im.rx g d a) (ImKv.rx g ds b)
end
theorem Im.nx (g : Nx S H H') {d : PyData} {v : V} (h : Im S H v d) : Im S H' v d := h.rx g.rx d
theorem ImAll.nx (g : Nx S H H') {d : List PyData} {v : List V} (h : ImAll S H v d) : ImAll S H' v d := h.rx g.rx d
theorem ImKv.nx (g : Nx S H H') {d : List (PyData × PyData)} {v : List (Key × V)} (h : ImKv S H v d) : ImKv S H' v d := h.rx g.rx d
variable {T : List Addr}
/-- the nodes are there: a new address is none of them -/
theorem rd_some {a : Addr} {u : HO} (r : Rd H a u) : H a ≠ none := by
  rcases r with r | ⟨o, r⟩ <;> rw [r] <;> simp
mutual
theorem Im.sub (g : ∀ a ∈ T, a ∈ S ∨ H a = none) : ∀ (d : PyData) {v : V}, Im S H v d → Im T H v d
  | .none, _, h => by cases h; exact .non
  | .bool b, _, h => by cases h; exact .bl b
  | .int i, _, h => by cases h; exact .int i
  | .str x, _, h => by cases h; exact .str x
  | .list ds, _, h => by
    cases h with
    | lst n r a => exact .lst (fun z => (g _ z).elim n fun q => rd_some r q) r (ImAll.sub g ds a)
  | .tuple ds, _, h => by
    cases h with
    | tup n r a => exact .tup (fun z => (g _ z).elim n fun q => rd_some r q) r (ImAll.sub g ds a)
  | .dict ds, _, h => by
    cases h with
    | dct n r nd a => exact .dct (fun z => (g _ z).elim n fun q => rd_some r q) r nd (ImKv.sub g ds a)
theorem ImAll.sub (g : ∀ a ∈ T, a ∈ S ∨ H a = none) : ∀ (ds : List PyData) {vs : List V}, ImAll S H vs ds → ImAll T H vs ds
  | [], _, h => by cases h; exact .nil
  | d :: ds, _, h => by
    cases h with
    | cons a b => exact .cons (Im.sub g d a) (ImAll.sub g ds b)
theorem ImKv.sub (g : ∀ a ∈ T, a ∈ S ∨ H a = none) : ∀ (ds : List (PyData × PyData)) {vs : List (Key × V)}, ImKv S H vs ds → ImKv T H vs ds
  | [], _, h => by cases h; exact .nil
  | (k, d) :: ds, _, h => by
    cases h with
    | cons a b => exact .cons (Im.sub g d a) (ImKv.sub g ds b)
end
/-- a new object at p: older data does not stand there -/
theorem Im.apart {p : Addr} {o : HO} (n : H p = none) {d : PyData} {v : V} (h : Im S H v d) : Im (p :: S) (upd H p o) v d :=
  Im.rx (Nx.rx (.new n)) d (Im.sub (fun a ha => (List.mem_cons.mp ha).elim (fun z => .inr (by rw [z]; exact n)) .inl) d h)
theorem ImAll.apart {p : Addr} {o : HO} (n : H p = none) {d : List PyData} {v : List V} (h : ImAll S H v d) : ImAll (p :: S) (upd H p o) v d :=
  ImAll.rx (Nx.rx (.new n)) d (ImAll.sub (fun a ha => (List.mem_cons.mp ha).elim (fun z => .inr (by rw [z]; exact n)) .inl) d h)
theorem Im.tail {p : Addr} {d : PyData} {v : V} (h : Im (p :: S) H v d) : Im S H v d := Im.sub (fun _ ha => .inl (List.mem_cons_of_mem _ ha)) d h
theorem ImAll.tail {p : Addr} {d : List PyData} {v : List V} (h : ImAll (p :: S) H v d) : ImAll S H v d := ImAll.sub (fun _ ha => .inl (List.mem_cons_of_mem _ ha)) d h
theorem ImKv.tail {p : Addr} {d : List (PyData × PyData)} {v : List (Key × V)} (h : ImKv (p :: S) H v d) : ImKv S H v d := ImKv.sub (fun _ ha => .inl (List.mem_cons_of_mem _ ha)) d h
theorem ImAll.length : ∀ {vs : List V} {ds : List PyData}, ImAll S H vs ds → vs.length = ds.length
  | _, _, .nil => rfl
  | _, _, .cons _ t => by rw [List.length_cons, List.length_cons, ImAll.length t]
theorem ImKv.length : ∀ {vs : List (Key × V)} {ds : List (PyData × PyData)}, ImKv S H vs ds → vs.length = ds.length
  | _, _, .nil => rfl
  | _, _, .cons _ t => by rw [List.length_cons, List.length_cons, ImKv.length t]
theorem ImAll.get : ∀ {vs : List V} {ds : List PyData}, ImAll S H vs ds → ∀ {i : Nat} {d : PyData}, ds[i]? = some d → ∃ v, vs[i]? = some v ∧ Im S H v d
  | _, _, .nil, i, d, e => by simp at e
  | _, _, .cons a t, 0, d, e => by simp at e; subst e; exact ⟨_, rfl, a⟩
  | _, _, .cons a t, i + 1, d, e => by
    simp at e
    obtain ⟨v, h1, h2⟩ := ImAll.get t e
    exact ⟨v, by simpa using h1, h2⟩
theorem ImAll.append : ∀ {vs : List V} {ds : List PyData} {ws : List V} {es : List PyData}, ImAll S H vs ds → ImAll S H ws es → ImAll S H (vs ++ ws) (ds ++ es)
  | _, _, _, _, .nil, h => h
  | _, _, _, _, .cons a t, h => .cons a (ImAll.append t h)
theorem ImAll.ints : ∀ ns : List Int, ImAll S H (ns.map V.int) (ns.map PyData.int)
  | [] => .nil
  | n :: r => .cons (.int n) (ImAll.ints r)
theorem ImAll.strs : ∀ ns : List Str, ImAll S H (ns.map V.str) (ns.map PyData.str)
  | [] => .nil
  | n :: r => .cons (.str n) (ImAll.strs r)
theorem ImAll.ints_inv : ∀ {ns : List Int} {vs : List V}, ImAll S H vs (ns.map PyData.int) → vs = ns.map V.int
  | [], _, .nil => rfl
  | n :: r, _, .cons a t => by cases a; rw [List.map_cons, ImAll.ints_inv t]
theorem ImAll.strs_inv : ∀ {ns : List Str} {vs : List V}, ImAll S H vs (ns.map PyData.str) → vs = ns.map V.str
  | [], _, .nil => rfl
  | n :: r, _, .cons a t => by cases a; rw [List.map_cons, ImAll.strs_inv t]
end

/-! ### a spring: three numbers; so many draws at most were made -/
structure Spr (H : Hp) (s : Addr) (n : Nat) : Prop where
  ex : ∃ x y z : Int, H s = some (.lst [.int x, .int y, .int z]) ∧ 0 ≤ x ∧ 0 ≤ y ∧ y < 2147483647 ∧ 0 ≤ z ∧ z ≤ n
theorem Spr.nx {S : List Addr} {H H' : Hp} {s : Addr} {n : Nat} (g : Nx S H H') (hs : s ∉ S) (h : Spr H s n) : Spr H' s n := by
  obtain ⟨x, y, z, e, q⟩ := h.ex
  exact ⟨x, y, z, g.kp s _ hs e, q⟩
theorem Spr.le {H : Hp} {s : Addr} {n m : Nat} (h : Spr H s n) (l : n ≤ m) : Spr H s m := by
  obtain ⟨x, y, z, e, a, b, c, d, f⟩ := h.ex
  exact ⟨x, y, z, e, a, b, c, d, by omega⟩
theorem Spr.al {H : Hp} {s : Addr} {n : Nat} (h : Spr H s n) : H s ≠ none := by
  obtain ⟨x, y, z, e, _⟩ := h.ex
  rw [e]; simp

/-! ### lists and tuples that are read -/
theorem sql_nx {K : PySem.W.Frag} {S : List Addr} {H H' : Hp} {a : Addr} {xs : List V} (g : Nx S H H') (hs : a ∉ S) (h : SqL K H a xs) : SqL K H' a xs :=
  h.elim (fun r => .inl (g.rx a _ hs .l r)) .inr
theorem sqt_nx {K : PySem.W.Frag} {S : List Addr} {H H' : Hp} {a : Addr} {xs : List V} (g : Nx S H H') (hs : a ∉ S) (h : SqT K H a xs) : SqT K H' a xs :=
  h.elim (fun r => .inl (g.rx a _ hs .t r)) .inr

/-! ### a def of the text, by its name -/
/-- the name x stands for a def that keeps the promise sp, at level k -/
structure Df (P : Program) (w : World) (K : PySem.W.Frag) (mg : Str → Option Value) (base : Heap) (CX : CXT) (k : Nat) (x : Str) (ps : List Str) (sp : Sp) : Prop where
  ex : ∃ (f : Addr) (fd : FuncData), mg x = some (.ref f) ∧ FnOk P w K mg base CX k f fd ps sp ∧ PySem.W.keepIn K (.ref f) = true ∧ Binds K fd ps []
section
variable {X : Cx} {x : Str} {k j : Nat} {ps : List Str} {sp : Sp} {p pos : Pos} {e : Expr} {es : List Expr} {t : TA}
theorem pe_df (D : Df X.prog X.w X.K X.mg X.base CX0 j x ps sp) (hr : Room k X.A) (ha : PA X (e :: es) t) (hj : j ≤ k := by first | decide | omega) (hg : Gl X x := by rfl)
    (hdb : (x == ("__debug__" : Str)) = false := by decide) (he : starEach (e :: es) X.env = (false, eval e X.env) :: starEach es X.env := by rfl) (hpl : (backTo pos (starEach es X.env)).any (·.1) = false := by rfl) :
    PE X (.Call (.Name x p) (e :: es) [] pos) (tCall sp [] E0 t) := by
  obtain ⟨f, fd, hm, F, hk, hb⟩ := D.ex
  exact pe_call F (hr.mono hj) hg hm hk hb .nil pass0 ha hdb he hpl
/-- a written number of the module -/
theorem pe_gi {i : Int} (h : ∃ t, X.mg x = some (.int i t)) (hg : Gl X x := by rfl) (hd : (x == ("__debug__" : Str)) = false := by decide) : PE X (.Name x p) (tC (.int i)) := by
  obtain ⟨t, h⟩ := h
  exact pe_glob hg h ⟨t, rfl⟩ hd
theorem pe_gs {z : Str} (h : ∃ t, X.mg x = some (.str z t)) (hg : Gl X x := by rfl) (hd : (x == ("__debug__" : Str)) = false := by decide) : PE X (.Name x p) (tC (.str z)) := by
  obtain ⟨t, h⟩ := h
  exact pe_glob hg h ⟨t, rfl⟩ hd
end
/-- the built-in names that the text uses are the built-in ones -/
structure Bn (mg : Str → Option Value) : Prop where
  len : mg "len" = none
  isinstance : mg "isinstance" = none
  int : mg "int" = none
  bool : mg "bool" = none
  str : mg "str" = none
  list : mg "list" = none
  dict : mg "dict" = none
  tuple : mg "tuple" = none
  range : mg "range" = none
  enumerate : mg "enumerate" = none
  zip : mg "zip" = none
  sorted : mg "sorted" = none
  max : mg "max" = none
  min : mg "min" = none
  all : mg "all" = none
  any : mg "any" = none
  repr : mg "repr" = none
  sum : mg "sum" = none
  abs : mg "abs" = none
  super : mg "super" = none
end RG

/-! further rules -/
namespace RG
open PySem PySem.Spec PyProof.Rows L2
section
variable {X : Cx}
/-- a, b = x, y, the names local or captured -/
def tPar2 (i1 i2 : Nat) (ta : TA) : TS := fun D σ H => ta σ H fun vs H1 => ∃ v1 v2, vs = [v1, v2] ∧ D.nx ((σ.set i1 (some v1)).set i2 (some v2)) H1
theorem ps_parG2 {i1 i2 : Nat} {x y : Str} {a b : Expr} {ta : TA} {px py pt pos : Pos} {kt k2 pt2} (hc : X.calm = true) (nd : X.N.Nodup) (h1 : X.N[i1]? = some x) (h2 : X.N[i2]? = some y) (d12 : i1 ≠ i2)
    (l1 : Loc X.env.scope x) (l2 : Loc X.env.scope y) (ha : PA X [a, b] ta) (sw : swappedStores [.Tuple [.Name x px, .Name y py] kt pt] (.Tuple [a, b] k2 pt2) X.env = pure (some [x, y]))
    (f1 : X.fn x = true := by rfl) (f2 : X.fn y = true := by rfl)
    (ss : swapsWithSole [.Tuple [.Name x px, .Name y py] kt pt] (.Tuple [a, b] k2 pt2) pos.line X.env = pure false := by rfl) :
    PS X (.Assign [.Tuple [.Name x px, .Name y py] kt pt] (.Tuple [a, b] k2 pt2) pos) (tPar2 i1 i2 ta) := by
  refine ⟨fun pins s σ H D I h => ?_⟩
  rw [exec_Assign_arm, ss]
  refine wpAny_bind (wpAny_standAt (wpAny_bind (wpAny_pure ?_)))
  rw [if_neg (by decide), sw]
  refine wpAny_bind (Tuple_ (thn (ha.run _ pins s σ H _ I h) fun us s1 ⟨vs, H1, I1, r1, v1, v2, e1, q⟩ => ?_))
  subst e1
  obtain ⟨u1, u2, rfl, r3, r4⟩ := vals2 r1
  refine wpAny_newObj_type (wpAny_bind (wpAny_pure ?_)) (show 2 ≤ sizeLine by decide)
  have J := I1.kept (t' := s1.toks) (h' := s1.heap.push { cls := .type "tuple", data := .seq [u1, u2].toArray }) fun c o e => Heap.get?_push_of_some _ e
  show wpAny (model X.prog X.w) X.A (do rule "assign.swapped-stores"; let l ← unpackItems (.ref s1.heap.objs.size) 2 none; assignInOrder [fun v => bindName X.env y v, fun v => bindName X.env x v] l.reverse; pure Flow.next) _ _ _
  refine wpAny_bind (wpAny_rule (wpAny_bind (unpackItems_tuple (items := #[u1, u2]) (I1.ok.hd hc) (IsTup.new s1.heap _) fun h' k => ?_)))
  have J2 := J.kept (h' := h') (t' := s1.toks) fun c o e => k c o (Nat.ne_of_lt (Heap.lt_size e)) e
  show wpAny _ _ (assignInOrder [fun v => bindName X.env y v, fun v => bindName X.env x v] [u2, u1] >>= fun _ => pure Flow.next) _ _ _
  refine wpAny_bind (assignInOrder_cons (wpAny_bindName (store_ok J2 nd h2 l2 r4 (fun s2 I4 => ?_) (.inl f2))))
  refine assignInOrder_cons (wpAny_bindName (store_ok I4 nd h1 l1 r3 (fun s3 I5 => assignInOrder_nil (wpAny_pure ?_)) (.inl f1)))
  rw [List.set_comm _ _ (Ne.symm d12)] at I5
  exact ⟨_, H1, I5, q⟩
def tPar3 (i1 i2 i3 : Nat) (ta : TA) : TS := fun D σ H => ta σ H fun vs H1 => ∃ v1 v2 v3, vs = [v1, v2, v3] ∧ D.nx (((σ.set i1 (some v1)).set i2 (some v2)).set i3 (some v3)) H1
theorem ps_parG3 {i1 i2 i3 : Nat} {x y z : Str} {a b c : Expr} {ta : TA} {px py pz pt pos : Pos} {kt k2 pt2} (hc : X.calm = true) (nd : X.N.Nodup) (h1 : X.N[i1]? = some x) (h2 : X.N[i2]? = some y) (h3 : X.N[i3]? = some z) (d12 : i1 ≠ i2) (d13 : i1 ≠ i3) (d23 : i2 ≠ i3)
    (l1 : Loc X.env.scope x) (l2 : Loc X.env.scope y) (l3 : Loc X.env.scope z) (ha : PA X [a, b, c] ta) (sw : swappedStores [.Tuple [.Name x px, .Name y py, .Name z pz] kt pt] (.Tuple [a, b, c] k2 pt2) X.env = pure (some [x, y, z]))
    (f1 : X.fn x = true := by rfl) (f2 : X.fn y = true := by rfl) (f3 : X.fn z = true := by rfl)
    (ss : swapsWithSole [.Tuple [.Name x px, .Name y py, .Name z pz] kt pt] (.Tuple [a, b, c] k2 pt2) pos.line X.env = pure false := by rfl) :
    PS X (.Assign [.Tuple [.Name x px, .Name y py, .Name z pz] kt pt] (.Tuple [a, b, c] k2 pt2) pos) (tPar3 i1 i2 i3 ta) := by
  refine ⟨fun pins s σ H D I h => ?_⟩
  rw [exec_Assign_arm, ss]
  refine wpAny_bind (wpAny_standAt (wpAny_bind (wpAny_pure ?_)))
  rw [if_neg (by decide), sw]
  refine wpAny_bind (Tuple_ (thn (ha.run _ pins s σ H _ I h) fun us s1 ⟨vs, H1, I1, r1, v1, v2, v3, e1, q⟩ => ?_))
  subst e1
  obtain ⟨u1, u2, u3, rfl, r3, r4, r5⟩ : ∃ u1 u2 u3, us = [u1, u2, u3] ∧ RelV v1 u1 ∧ RelV v2 u2 ∧ RelV v3 u3 := by
    cases r1 with
    | cons p q => obtain ⟨u2, u3, rfl, p2, p3⟩ := vals2 q; exact ⟨_, u2, u3, rfl, p, p2, p3⟩
  refine wpAny_newObj_type (wpAny_bind (wpAny_pure ?_)) (show 3 ≤ sizeLine by decide)
  have J := I1.kept (t' := s1.toks) (h' := s1.heap.push { cls := .type "tuple", data := .seq [u1, u2, u3].toArray }) fun c o e => Heap.get?_push_of_some _ e
  show wpAny (model X.prog X.w) X.A (do rule "assign.swapped-stores"; let l ← unpackItems (.ref s1.heap.objs.size) 3 none; assignInOrder [fun v => bindName X.env z v, fun v => bindName X.env y v, fun v => bindName X.env x v] l.reverse; pure Flow.next) _ _ _
  refine wpAny_bind (wpAny_rule (wpAny_bind (unpackItems_tuple (items := #[u1, u2, u3]) (I1.ok.hd hc) (IsTup.new s1.heap _) fun h' k => ?_)))
  have J2 := J.kept (h' := h') (t' := s1.toks) fun c o e => k c o (Nat.ne_of_lt (Heap.lt_size e)) e
  show wpAny _ _ (assignInOrder [fun v => bindName X.env z v, fun v => bindName X.env y v, fun v => bindName X.env x v] [u3, u2, u1] >>= fun _ => pure Flow.next) _ _ _
  refine wpAny_bind (assignInOrder_cons (wpAny_bindName (store_ok J2 nd h3 l3 r5 (fun s2 I4 => ?_) (.inl f3))))
  refine assignInOrder_cons (wpAny_bindName (store_ok I4 nd h2 l2 r4 (fun s3 I5 => ?_) (.inl f2)))
  refine assignInOrder_cons (wpAny_bindName (store_ok I5 nd h1 l1 r3 (fun s4 I6 => assignInOrder_nil (wpAny_pure ?_)) (.inl f1)))
  rw [List.set_comm _ _ (Ne.symm d23), List.set_comm _ _ (Ne.symm d13), List.set_comm _ _ (Ne.symm d12)] at I6
  exact ⟨_, H1, I6, q⟩
/-- the key y in the dict -/
def rDin : R2 := fun y x H Q => ∃ a o, x = .ref a ∧ DGet H a y o ∧ Q (.bl o.isSome) H
def rDnotin : R2 := fun y x H Q => ∃ a o, x = .ref a ∧ DGet H a y o ∧ Q (.bl (!o.isSome)) H
theorem op_din (hu : X.A.units + 1 < cLine) : OpR X (compareOp .In) rDin := by
  intro pins s σ H y x iv u Q I ry rx h
  obtain ⟨a, o, ex, g, q⟩ := h
  subst ex
  obtain rfl : u = Value.ref a := rx
  exact d_in hu I g ry fun s3 I3 => ⟨.bl o.isSome, H, I3, rfl, q⟩
theorem op_dnotin (hu : X.A.units + 1 < cLine) : OpR X (compareOp .NotIn) rDnotin := by
  intro pins s σ H y x iv u Q I ry rx h
  obtain ⟨a, o, ex, g, q⟩ := h
  subst ex
  obtain rfl : u = Value.ref a := rx
  exact d_notIn hu I g ry fun s3 I3 => ⟨.bl (!o.isSome), H, I3, rfl, q⟩
end
/-! ### readings, one step at a time -/
section
variable {σ : L2.St} {H : Hp} {Q : VK} {v x y : V} {ta tb te : TE} {D : Ends} {t u : TS} {i : Nat} {K : PySem.W.Frag}
theorem s_seq (h : t { D with nx := u D } σ H) : tSeq t u D σ H := h
theorem s_asg {g : TG} (h : te σ H fun x H1 => g x σ H1 D.nx) : tAsg te g D σ H := h
theorem s_name {Q : L2.St → Hp → Prop} (h : Q (σ.set i (some v)) H) : gName i v σ H Q := h
theorem s_var (e : σ[i]? = some (some v)) (h : Q v H) : tVar i σ H Q := ⟨v, e, h⟩
theorem s_c (h : Q v H) : tC v σ H Q := h
theorem s_op {r : R2} (h : ta σ H fun x H1 => tb σ H1 fun y H2 => r x y H2 Q) : tOp r ta tb σ H Q := h
theorem s_un {r : V → Hp → VK → Prop} (h : ta σ H fun x H1 => r x H1 Q) : tUn r ta σ H Q := h
theorem s_I0 {g : Int → Int → V} {a b : Int} (h : Q (g a b) H) : rI0 g (.int a) (.int b) H Q := ⟨a, b, rfl, rfl, h⟩
theorem s_I {C : Int → Int → Prop} {g : Int → Int → V} {a b : Int} (c : C a b) (h : Q (g a b) H) : rI C g (.int a) (.int b) H Q := ⟨a, b, rfl, rfl, c, h⟩
theorem s_U {g : Int → V} {a : Int} (h : Q (g a) H) : rU g (.int a) H Q := ⟨a, rfl, h⟩
theorem s_ret (h : te σ H D.rt) : tRet te D σ H := h
theorem s_retN (h : D.rt .non H) : tRetN D σ H := h
theorem s_drop (h : te σ H fun _ H1 => D.nx σ H1) : tDrop te D σ H := h
theorem s_next (h : D.nx σ H) : tNext D σ H := h
theorem s_if {c : TT} (h : c σ H fun b H1 => if b = true then t D σ H1 else u D σ H1) : tIfS c t u D σ H := h
theorem s_ifE {c : TT} (h : c σ H fun b H1 => if b = true then ta σ H1 Q else tb σ H1 Q) : tIf c ta tb σ H Q := h
theorem s_test {R : Bool → Hp → Prop} (h : te σ H fun x H' => ∃ k, x = .bl k ∧ R k H') : tTest te σ H R := h
theorem s_B {R : Bool → Hp → Prop} (h : te σ H fun x H' => ∃ k, x = .bl k ∧ R k H') : tB te σ H R := h
theorem s_bl {b : Bool} {R : Bool → Prop} (h : R b) : ∃ k, V.bl b = .bl k ∧ R k := ⟨b, rfl, h⟩
theorem s_and {c d : TT} {R : Bool → Hp → Prop} (h : c σ H fun b H1 => if b = true then d σ H1 R else R false H1) : tAnd c d σ H R := h
theorem s_or {c d : TT} {R : Bool → Hp → Prop} (h : c σ H fun b H1 => if b = true then R true H1 else d σ H1 R) : tOr c d σ H R := h
theorem s_not {c : TT} {R : Bool → Hp → Prop} (h : c σ H fun b H1 => R (!b) H1) : tNot c σ H R := h
theorem s_andV (h : ta σ H fun x H1 => ∃ c, x = .bl c ∧ if c = true then tb σ H1 Q else Q (.bl false) H1) : tAndV ta tb σ H Q := h
theorem s_orV (h : ta σ H fun x H1 => ∃ c, x = .bl c ∧ if c = true then Q (.bl true) H1 else tb σ H1 Q) : tOrV ta tb σ H Q := h
theorem s_notV (h : ta σ H fun x H1 => ∃ c, x = .bl c ∧ Q (.bl (!c)) H1) : tNotV ta σ H Q := h
theorem s_nil {R : List V → Hp → Prop} (h : R [] H) : tNil σ H R := h
theorem s_cons {tr : TA} {R : List V → Hp → Prop} (h : te σ H fun x H1 => tr σ H1 fun xs H2 => R (x :: xs) H2) : tCons te tr σ H R := h
theorem s_CB {r : List V → Hp → VK → Prop} {t : TA} (h : t σ H fun vs H1 => r vs H1 Q) : tCB r t σ H Q := h
theorem s_call {sp : Sp} {E : XK} {t : TA} (h : t σ H fun vs H1 => sp (vs ++ []) H1 Q E) : tCall sp [] E t σ H Q := h
theorem s_tup {t : TA} (h : t σ H fun xs H1 => xs.length ≤ sizeLine ∧ ∀ p, H1 p = none → Q (.ref p) (upd H1 p (.tup xs))) : tTup t σ H Q := h
theorem s_lst {t : TA} (h : t σ H fun xs H1 => xs.length ≤ sizeLine ∧ ∀ p, H1 p = none → Q (.ref p) (upd H1 p (.lst xs))) : tLst t σ H Q := h
theorem s_par2 {a b : Nat} {ta : TA} (h : ta σ H fun vs H1 => ∃ v1 v2, vs = [v1, v2] ∧ D.nx ((σ.set a (some v1)).set b (some v2)) H1) : tPar2 a b ta D σ H := h
theorem s_par3 {a b c : Nat} {ta : TA} (h : ta σ H fun vs H1 => ∃ v1 v2 v3, vs = [v1, v2, v3] ∧ D.nx (((σ.set a (some v1)).set b (some v2)).set c (some v3)) H1) : tPar3 a b c ta D σ H := h
theorem s_2 {v1 v2 : V} {P : V → V → Prop} (h : P v1 v2) : ∃ a b, [v1, v2] = [a, b] ∧ P a b := ⟨_, _, rfl, h⟩
theorem s_3 {v1 v2 v3 : V} {P : V → V → V → Prop} (h : P v1 v2 v3) : ∃ a b c, [v1, v2, v3] = [a, b, c] ∧ P a b c := ⟨_, _, _, rfl, h⟩
theorem s_sub {to ti : TE} {t : TSet} {R : L2.St → Hp → Prop} (h : to σ H fun o H1 => ti σ H1 fun i H2 => t o i v H2 fun H3 => R σ H3) : gSub to ti t v σ H R := h
theorem s_dput {td ty tv : TE} (h : tv σ H fun v H1 => td σ H1 fun x H2 => ty σ H2 fun y H3 => ∃ a H4, x = .ref a ∧ DPut H3 a y v H4 ∧ D.nx σ H4) : sDPut td ty tv D σ H := h
theorem s_dget {td ty : TE} (h : td σ H fun x H1 => ty σ H1 fun y H2 => ∃ a v, x = .ref a ∧ DGet H2 a y (some v) ∧ Q v H2) : tDGet td ty σ H Q := h
theorem s_one {a : Int} {P : Int → Prop} (h : P a) : ∃ b, [V.int a] = [V.int b] ∧ P b := ⟨a, rfl, h⟩
/-- an item of a list, of a tuple, a sign of a text -/
theorem s_ixl {p : Addr} {xs : List V} {i : Int} (hs : SqL K H p xs) (ha : atI xs i = some v) (h : Q v H) : rIxL K (.ref p) (.int i) H Q := ⟨p, xs, i, v, rfl, rfl, hs, ha, h⟩
theorem s_ixt {p : Addr} {xs : List V} {i : Int} (hs : SqT K H p xs) (ha : atI xs i = some v) (h : Q v H) : rIxT K (.ref p) (.int i) H Q := ⟨p, xs, i, v, rfl, rfl, hs, ha, h⟩
theorem s_eq (hs : scal x y = true) (h : Q (.bl (decide (x = y))) H) : rEq x y H Q := ⟨hs, h⟩
theorem s_ne (hs : scal x y = true) (h : Q (.bl (!decide (x = y))) H) : rNe x y H Q := ⟨hs, h⟩
theorem ite_t {b : Bool} {A B : Prop} (e : b = true) (h : A) : if b = true then A else B := by rw [if_pos e]; exact h
theorem ite_f {b : Bool} {A B : Prop} (e : b = false) (h : B) : if b = true then A else B := by rw [e]; exact iteF h
theorem ite_b {b : Bool} {A B : Prop} (h1 : b = true → A) (h2 : b = false → B) : if b = true then A else B := by
  cases b with
  | true => exact ite_t rfl (h1 rfl)
  | false => exact ite_f rfl (h2 rfl)
theorem atI_at {xs : List V} {j : Nat} {i : Int} (e : xs[j]? = some v) (hi : i = (j : Int)) : atI xs i = some v := by subst hi; exact atI_nat e
theorem s_int1 {a : Int} {P : Int → Prop} {R : Prop} (h : P a) : (∃ i, [V.int a] = [V.int i] ∧ P i) ∨ R := .inl ⟨a, rfl, h⟩
/-- the value forgotten: a rest, a power -/
theorem s_modF {a b : Int} (hb : 0 < b) (h : ∀ r, 0 ≤ r → r < b → Q (.int r) H) : rI (fun _ j => 0 < j) (fun i j => .int (i % j)) (.int a) (.int b) H Q :=
  ⟨a, b, rfl, rfl, hb, h _ (Int.emod_nonneg _ (by omega)) (Int.emod_lt_of_pos _ hb)⟩
theorem s_powF {a b : Int} (c : CPow a b) (h : ∀ r, Q (.int r) H) : rI CPow (fun i j => .int (i ^ j.toNat)) (.int a) (.int b) H Q := ⟨a, b, rfl, rfl, c, h _⟩
/-- len of a list -/
theorem len_l {p : Addr} {xs : List V} (h : SqL K H p xs) : LenV K (.ref p) H xs.length := .inl ⟨xs, h, rfl⟩
end
theorem s_lc {wi : TI} {g : TG} {tt : TT} {te : TE} {vs : List Nat} {σ : L2.St} {H : Hp} {Q : VK} (h : wi σ H fun J H1 => ∀ D, H1 D = none → ∃ W : Nat → Nat → Hp → Prop, (∃ m, W 0 m (upd H1 D (.lst []))) ∧ ∀ i m H, W i m H →
  (J.stop i H ∧ Q (.ref D) H) ∨ (J.go i H ∧ ∃ Nx : Hp → Prop, (∀ H', Nx H' → ∃ m', m' < m ∧ W (i + 1) m' H') ∧ ∀ x H', J.yld i H x H' → g x (wipe σ vs) H' fun σ2 H2 => wipe σ2 vs = wipe σ vs ∧ tt σ2 H2 fun b H3 =>
    if b = true then te σ2 H3 fun y H4 => ∃ acc, H4 D = some (.lst acc) ∧ acc.length < sizeLine ∧ Nx (upd H4 D (.lst (acc ++ [y]))) else Nx H3)) : tLc wi g tt te vs σ H Q := h
theorem s_rng1 {ta : TA} {σ : L2.St} {H : Hp} {R : It → Hp → Prop} (h : ta σ H fun vs H1 => ∃ j : Int, vs = [.int j] ∧ -(2 ^ 62) ≤ j ∧ j < 2 ^ 62 ∧ R (Itr 0 j.toNat) H1) : iRng1 ta σ H R := h
theorem s_yes {σ : L2.St} {H : Hp} {Q : Bool → Hp → Prop} (h : Q true H) : tYes σ H Q := h
theorem s_bm {K : PySem.W.Frag} {T : String} {r : V → List V → Hp → VK → Prop} {to : TE} {ta : TA} {σ : L2.St} {H : Hp} {Q : VK} (h : to σ H fun x H1 => tyV K T x H1 ∧ ta σ H1 fun xs H2 => r x xs H2 Q) : tBM K T r to ta σ H Q := h
theorem s_bm0 {K : PySem.W.Frag} {T : String} {r : V → List V → Hp → VK → Prop} {to : TE} {σ : L2.St} {H : Hp} {Q : VK} (h : to σ H fun x H1 => tyV K T x H1 ∧ r x [] H1 Q) : tBM0 K T r to σ H Q := h
theorem perm_erase {α : Type} : ∀ {l : List α} {k : Nat} {y : α}, l[k]? = some y → (y :: l.eraseIdx k).Perm l
  | [], _, _, h => by simp at h
  | x :: r, 0, y, h => by simp at h; subst h; exact .refl _
  | x :: r, k + 1, y, h => by
    have ih := perm_erase (l := r) (k := k) (y := y) (by simpa using h)
    exact (List.Perm.swap x y _).trans (ih.cons x)
theorem Nx.sing {S : List Addr} {s : Addr} {H H' : Hp} (g : Nx [s] H H') (h : s ∈ S) : Nx S H H' := g.mono fun x hx => by
  rw [List.mem_singleton.mp hx]; exact h
/-- [e for k in range(many)], e an int of some kind, at most c draws each -/
theorem lc_ints {te : TE} {vs : List Nat} {σ : L2.St} {H : Hp} {D s : Addr} {Q : VK} {many k n : Nat} (c : Nat) (R : Int → Prop) (hw : ∀ x, wipe ((wipe σ vs).set k (some x)) vs = wipe σ vs) (nD : H D = none) (hs : Spr H s n) (hm : many ≤ 100000)
    (helt : ∀ (i : Nat) (H1 : Hp) (Q' : VK), i < many → Nx [s] H H1 → Spr H1 s (n + i * c) → (∀ (y : Int) (H2 : Hp), R y → Nx [s] H1 H2 → Spr H2 s (n + (i + 1) * c) → Q' (.int y) H2) → te ((wipe σ vs).set k (some (.int (0 + (i : Nat))))) H1 Q')
    (hq : ∀ (ys : List Int) (H' : Hp), ys.length = many → (∀ y ∈ ys, R y) → H' D = some (.lst (ys.map V.int)) → Nx [s] H H' → Spr H' s (n + many * c) → Q (.ref D) H') :
    ∃ W : Nat → Nat → Hp → Prop, (∃ m, W 0 m (upd H D (.lst []))) ∧ ∀ i m H, W i m H →
      ((Itr 0 many).stop i H ∧ Q (.ref D) H) ∨ ((Itr 0 many).go i H ∧ ∃ Nx : Hp → Prop, (∀ H', Nx H' → ∃ m', m' < m ∧ W (i + 1) m' H') ∧ ∀ x H', (Itr 0 many).yld i H x H' → gName k x (wipe σ vs) H' fun σ2 H2 => wipe σ2 vs = wipe σ vs ∧ tYes σ2 H2 fun b H3 =>
        if b = true then te σ2 H3 fun y H4 => ∃ acc, H4 D = some (.lst acc) ∧ acc.length < sizeLine ∧ Nx (upd H4 D (.lst (acc ++ [y]))) else Nx H3) := by
  have hDs : D ≠ s := fun z => hs.al (by rw [← z]; exact nD)
  refine lc_range (fun i H' => ∃ ys : List Int, ys.length = i ∧ (∀ y ∈ ys, R y) ∧ H' D = some (.lst (ys.map V.int)) ∧ Nx [s] H H' ∧ Spr H' s (n + i * c)) ⟨[], rfl, by simp, upd_same, .new nD, by simpa using hs.nx (S := []) (.new nD) (by simp)⟩ ?_ ?_
  · rintro i H1 hi ⟨ys, hl, hr, eD, g, hs1⟩
    refine ⟨hw _, s_yes ?_⟩
    rw [if_pos rfl]
    refine helt i H1 _ hi g hs1 fun y H2 ry g2 hs2 => ⟨ys.map V.int, g2.kp D _ (by simpa using hDs) eD, ?_, ys ++ [y], by simp [hl], ?_, by rw [upd_same]; simp, ?_, ?_⟩
    · rw [List.length_map]; exact Nat.lt_of_lt_of_le (show ys.length < 100000 by omega) (by decide)
    · intro z hz
      rcases List.mem_append.mp hz with hz | hz
      · exact hr z hz
      · rw [List.mem_singleton.mp hz]; exact ry
    · have ga : Nx [D, s] H1 (upd H2 D (.lst (ys.map V.int ++ [V.int y]))) := (g2.sing (by simp)).putP (by simp)
      exact ((g.sing (by simp)).trans ga).drop nD
    · exact hs2.nx (S := [D]) (.put (by simp)) (by simpa using hDs.symm)
  · rintro H1 ⟨ys, hl, hr, eD, g, hs1⟩
    exact hq ys H1 hl hr eD g hs1
end RG

/-! rules whose reading names the written part K itself (so that they stand within a comprehension's block too), rules over data -/
namespace RG
open PySem PySem.Spec PyProof.Rows L2
section
variable {X : Cx}
theorem kx_list (K : PySem.W.Frag) (hK : X.K = K := by rfl) : IxR X (rIxL K) := by subst hK; exact ix_list
theorem kx_tup (K : PySem.W.Frag) (hK : X.K = K := by rfl) : IxR X (rIxT K) := by subst hK; exact ix_tup
theorem kx_seq (K : PySem.W.Frag) (hK : X.K = K := by rfl) : IxR X (rIx K) := by subst hK; exact ix_seq
theorem ksl_list (K : PySem.W.Frag) (hK : X.K = K := by rfl) : SlR X (rSlL K) := by subst hK; exact sl_list
theorem kin_seq (K : PySem.W.Frag) (hK : X.K = K := by rfl) : OpR X (compareOp .In) (rIn K false) := by subst hK; exact op_in_seq
theorem knotIn_seq (K : PySem.W.Frag) (hK : X.K = K := by rfl) : OpR X (compareOp .NotIn) (rIn K true) := by subst hK; exact op_notIn_seq
def rListOf (K : PySem.W.Frag) : List V → Hp → VK → Prop := fun xs H Q => ∃ p ys, xs = [V.ref p] ∧ (SqL K H p ys ∨ SqT K H p ys) ∧ ∀ l, H l = none → Q (.ref l) (upd H l (.lst ys))
theorem klist_of (K : PySem.W.Frag) (hK : X.K = K := by rfl) : CallR X (.type "list") (rListOf K) := by subst hK; exact call_list_of
def rTupleOf (K : PySem.W.Frag) : List V → Hp → VK → Prop := fun xs H Q => ∃ p ys, xs = [V.ref p] ∧ ((SqL K H p ys ∧ ∀ l, H l = none → Q (.ref l) (upd H l (.tup ys))) ∨ (SqT K H p ys ∧ Q (.ref p) H))
theorem ktuple_of (K : PySem.W.Frag) (hK : X.K = K := by rfl) : CallR X (.type "tuple") (rTupleOf K) := by subst hK; exact call_tuple_of
theorem kall (K : PySem.W.Frag) (hc : X.calm = true := by rfl) (hK : X.K = K := by rfl) : CallR X (.builtin "all") (rAll K) := by subst hK; exact cr_all hc
theorem kany (K : PySem.W.Frag) (hc : X.calm = true := by rfl) (hK : X.K = K := by rfl) : CallR X (.builtin "any") (rAny K) := by subst hK; exact cr_any hc
theorem ksortedS (K : PySem.W.Frag) (hK : X.K = K := by rfl) : CallR X (.builtin "sorted") (rSortedS K) := by subst hK; exact cr_sortedS
/-- len: texts, lists, tuples, dicts -/
def LenU (K : PySem.W.Frag) (x : V) (H : Hp) (n : Nat) : Prop := LenV K x H n ∨ ∃ a kvs, x = .ref a ∧ Rd H a (.dK kvs) ∧ n = kvs.length
def rLenU (K : PySem.W.Frag) : List V → Hp → VK → Prop := fun xs H Q => ∃ x n, xs = [x] ∧ LenU K x H n ∧ Q (.int n) H
theorem klen (K : PySem.W.Frag) (hK : X.K = K := by rfl) : CallR X (.builtin "len") (rLenU K) := by
  subst hK
  intro pins s σ H xs us Q I r h
  obtain ⟨x, n, rfl, l, q⟩ := h
  rcases l with l | ⟨a, kvs, rfl, e, rfl⟩
  · exact call_len pins s σ H [x] us Q I r ⟨x, n, rfl, l, q⟩
  · obtain ⟨u, rfl, ru⟩ := vals1 r
    obtain rfl : u = Value.ref a := ru
    exact d_len I e fun t s' I' => ⟨.int kvs.length, H, I', ⟨t, rfl⟩, q⟩
/-- truth: dicts too that are read alone -/
def TruU (K : PySem.W.Frag) (x : V) (H : Hp) (k : Bool) : Prop := TruV K x H k ∨ ∃ a kvs, x = .ref a ∧ Rd H a (.dK kvs) ∧ k = !kvs.isEmpty
def tTruU (K : PySem.W.Frag) (ta : TE) : TT := fun σ H Q => ta σ H fun x H' => ∃ k, TruU K x H' k ∧ Q k H'
theorem kt_truth (K : PySem.W.Frag) {a : Expr} {ta : TE} (ha : PE X a ta) (he : ∀ whole, isTrue a X.env whole = (do let v ← whole; standAt a.pos; holding [v] (truthy v))) (hK : X.K = K := by rfl) : PT X a (tTruU K ta) := by
  subst hK
  refine ⟨fun pins s σ H Q I h => ?_⟩
  refine isTrue_plain (thn (ha.run pins s σ H _ I h) fun v s1 ⟨x, H1, I1, r1, k, t, q⟩ => ?_) (he _)
  rcases t with t | ⟨p, kvs, rfl, e, rfl⟩
  · exact tru_ok pins s1 σ H1 x v Q I1 r1 ⟨k, t, q⟩
  · obtain rfl : v = Value.ref p := r1
    obtain ⟨hz, hS, vs, r, m⟩ := dk_rd I1.hok e
    have hlen : kvs.length = vs.length := Paired.length r
    have hl := line63
    exact wpAny_truthy_dict hS m (by omega) ⟨H1, I1.tok _, by rw [isEmpty_kv r]; exact q⟩
/-- a built-in method -/
theorem kbm (K : PySem.W.Frag) {o e : Expr} {es : List Expr} {to : TE} {t : TA} {name : Str} {apos cpos : Pos} {T id : String} {r : V → List V → Hp → VK → Prop}
    (pa : PlainAttrs T) (slot : Slot T name id) (hty : typeOf (.builtin id) = pure (.type "method_descriptor")) (hm : MtR X id r) (ho : PE X o to) (ha : PA X (e :: es) t)
    (hbase : attributeBase o name X.env (eval o X.env) = eval o X.env := by rfl)
    (hfew : ((backTo cpos (starEach (e :: es) X.env)).all (fun x => !x.1) && (backToKw cpos (keywordEach [] X.env)).all (fun x => x.1.isSome) && decide ((e :: es).length + ([] : List Keyword).length + (if ([] : List Keyword).isEmpty then 0 else 1) < 30)) = true := by rfl)
    (hline : (apos.endLine == cpos.line) = true := by rfl) (hs : starEach (e :: es) X.env = (false, eval e X.env) :: starEach es X.env := by rfl) (hplain : (backTo cpos (starEach es X.env)).any (·.1) = false := by rfl)
    (hK : X.K = K := by rfl) : PE X (.Call (.Attribute o name apos) (e :: es) [] cpos) (tBM K T r to t) := by
  subst hK; exact pe_bm pa slot hty hm ho ha hbase hfew hline hs hplain
theorem kbm0 (K : PySem.W.Frag) {o : Expr} {to : TE} {name : Str} {apos cpos : Pos} {T id : String} {r : V → List V → Hp → VK → Prop}
    (pa : PlainAttrs T) (slot : Slot T name id) (hty : typeOf (.builtin id) = pure (.type "method_descriptor")) (hm : MtR X id r) (ho : PE X o to)
    (hbase : attributeBase o name X.env (eval o X.env) = eval o X.env := by rfl) (hline : (apos.endLine == cpos.line) = true := by rfl)
    (hK : X.K = K := by rfl) : PE X (.Call (.Attribute o name apos) [] [] cpos) (tBM0 K T r to) := by
  subst hK; exact pe_bm0 pa slot hty hm ho hbase hline
theorem kgtup (K : PySem.W.Frag) {es : List Expr} {k : Nat} {t : TGs} {n : Nat} {pos : Pos} (hc : X.calm = true) (h : PGs X es t) (hn : (assignEach es X.env).length = n := by rfl) (hst : (assignEach es X.env).findIdx? (·.1) = none := by rfl)
    (hK : X.K = K := by rfl) : PG X (.Tuple es k pos) (gTup K n t) := by
  subst hK; exact pg_tup hc h hn hst
variable {tg : Expr}
theorem ki_list (K : PySem.W.Frag) {l : Expr} {tl : TE} (hl : PE X l tl) (hK : X.K = K := by rfl) : PI X tg l (iList K tl) := by subst hK; exact pi_list hl
theorem ki_tup (K : PySem.W.Frag) {l : Expr} {tl : TE} (hl : PE X l tl) (hK : X.K = K := by rfl) : PI X tg l (iTup K tl) := by subst hK; exact pi_tup hl

theorem ki_enum (K : PySem.W.Frag) {e : Expr} {ta : TA} {p pos tpos : Pos} {elts : List Expr} {kk : Nat} (hg : Gl X "enumerate") (hm : X.mg "enumerate" = none) (ha : PA X [e] ta) (hs : starEach [e] X.env = [(false, eval e X.env)] := by rfl) (hK : X.K = K := by rfl) :
    PI X (.Tuple elts kk tpos) (.Call (.Name "enumerate" p) [e] [] pos) (iEnum K ta) := by subst hK; exact pi_enum hg hm ha hs

theorem ki_zip (K : PySem.W.Frag) {e e2 : Expr} {ta : TA} {p pos tpos : Pos} {elts : List Expr} {kk : Nat} (hg : Gl X "zip") (hm : X.mg "zip" = none) (ha : PA X [e, e2] ta)
    (hs : starEach [e, e2] X.env = (false, eval e X.env) :: starEach [e2] X.env := by rfl) (hpl : (backTo pos (starEach [e2] X.env)).any (·.1) = false := by rfl) (hK : X.K = K := by rfl) :
    PI X (.Tuple elts kk tpos) (.Call (.Name "zip" p) [e, e2] [] pos) (iZip K ta) := by subst hK; exact pi_zip hg hm ha hs hpl

/-! ### data -/
/-- the class of a datum -/
def tyD : PyData → String
  | .none => "NoneType"
  | .bool _ => "bool"
  | .int _ => "int"
  | .str _ => "str"
  | .list _ => "list"
  | .tuple _ => "tuple"
  | .dict _ => "dict"
/-- whether it is an instance of a built-in class -/
def subT (a T : String) : Bool := a == T || (a == "bool" && T == "int")
def isT (d : PyData) (T : String) : Bool := subT (tyD d) T
def seven : List String := ["NoneType", "bool", "int", "str", "list", "tuple", "dict"]
theorem tyD_seven (d : PyData) : tyD d ∈ seven := by cases d <;> simp [tyD, seven]
theorem ty_im {K : PySem.W.Frag} {S : List Addr} {H : Hp} {v : V} {d : PyData} (h : Im S H v d) : TyX K H v (.type (tyD d)) := by
  cases h with
  | non => exact .base .non
  | bl b => exact .base (.bl b)
  | int i => exact .base (.int i)
  | str x => exact .base (.str x)
  | lst n r a =>
    rcases r with r | ⟨o, r⟩
    · exact .base (.lst r)
    · exact .base (.frz r)
  | tup n r a =>
    rcases r with r | ⟨o, r⟩
    · exact .base (.tup r)
    · exact .fTuple r
  | dct n r nd a =>
    rcases r with r | ⟨o, r⟩
    · exact .base (.dK r)
    · exact .fDict r
/-- the six classes that are asked for -/
def six : List String := ["bool", "int", "str", "list", "tuple", "dict"]
theorem kit_all : ∀ a ∈ seven, ∀ T ∈ six, kitB a T = some (subT a T) := by decide +kernel
theorem kit_d {K : PySem.W.Frag} (d : PyData) {T : String} (hT : T ∈ six) : PySem.W.kitOne K (.type (tyD d)) (.type T) = some (isT d T) := kit_ty (kit_all _ (tyD_seven d) T hT)
/-- isinstance(x, T) -/
def rIsD : List V → Hp → VK → Prop := fun xs H Q => ∃ (x : V) (T : String) (S : List Addr) (d : PyData), xs = [x, .ty T] ∧ T ∈ six ∧ Im S H x d ∧ Q (.bl (isT d T)) H
theorem kisD : CallR X (.builtin "isinstance") rIsD := by
  intro pins s σ H xs us Q I r h
  obtain ⟨x, T, S, d, rfl, hT, i, q⟩ := h
  exact call_isi pins s σ H _ us Q I r ⟨x, .ty T, _, _, _, rfl, .ty T, ty_im i, kit_d d hT, q⟩
/-- isinstance(x, (T1, T2, ..)) -/
def rIsDT : List V → Hp → VK → Prop := fun xs H Q => ∃ (x : V) (tp : Addr) (Ts : List String) (S : List Addr) (d : PyData), xs = [x, .ref tp] ∧ H tp = some (.tup (Ts.map V.ty)) ∧ (∀ T ∈ Ts, T ∈ six) ∧ Im S H x d ∧ Q (.bl (Ts.any (isT d))) H
theorem kit_ds {K : PySem.W.Frag} (d : PyData) : ∀ {Ts : List String}, (∀ T ∈ Ts, T ∈ six) → PySem.W.kitAny K (.type (tyD d)) (Ts.map Value.type) = some (Ts.any (isT d))
  | [], _ => rfl
  | T :: r, h => by
    have h1 := kit_d (K := K) d (h T List.mem_cons_self)
    have h2 := kit_ds (K := K) d (Ts := r) fun a ha => h a (List.mem_cons_of_mem _ ha)
    simp only [List.map_cons, PySem.W.kitAny, List.any_cons, h1, h2]
    cases isT d T <;> simp
theorem cls_tys : ∀ Ts : List String, Paired ClsV (Ts.map V.ty) (Ts.map Value.type)
  | [] => .nil
  | T :: r => .cons (.ty T) (cls_tys r)
theorem kisDT : CallR X (.builtin "isinstance") rIsDT := by
  intro pins s σ H xs us Q I r h
  obtain ⟨x, tp, Ts, S, d, rfl, hT, h6, i, q⟩ := h
  exact call_isiT pins s σ H _ us Q I r ⟨x, tp, _, _, _, _, rfl, hT, cls_tys Ts, ty_im i, kit_ds d h6, q⟩
theorem s_isD {S : List Addr} {H : Hp} {Q : VK} {x : V} {T : String} {d : PyData} (i : Im S H x d) (hT : T ∈ six) (h : Q (.bl (isT d T)) H) : rIsD [x, .ty T] H Q := ⟨x, T, S, d, rfl, hT, i, h⟩
end
end RG

/-! loops and comprehensions over whatever is walked a known number of turns -/
namespace RG
open PySem PySem.Spec PyProof.Rows L2
/-- n turns while G stands; Y: what a turn draws -/
structure Runs (J : It) (n : Nat) (G : Hp → Prop) (Y : Nat → Hp → V → Hp → Prop) : Prop where
  go : ∀ i H, G H → i < n → J.go i H
  stop : ∀ i H, G H → n ≤ i → J.stop i H
  yl : ∀ i H x H', G H → i < n → J.yld i H x H' → Y i H x H'
theorem runs_range {lo : Int} {n : Nat} : Runs (Itr lo n) n (fun _ => True) (fun i H x H' => H' = H ∧ x = .int (lo + i)) := ⟨fun _ _ _ h => h, fun _ _ _ h => h, fun _ _ _ _ _ _ h => h⟩
theorem runs_list {K : PySem.W.Frag} {a : Addr} {xs : List V} : Runs (Itl K a) xs.length (fun H => SqL K H a xs) (fun i H x H' => H' = H ∧ xs[i]? = some x) :=
  ⟨fun i H h hi => ⟨xs, xs[i], h, List.getElem?_eq_getElem hi⟩, fun i H h hi => ⟨xs, h, hi⟩, fun i H x H' h hi ⟨e, y⟩ => ⟨e, y xs h⟩⟩
theorem runs_enum {K : PySem.W.Frag} {a : Addr} {xs : List V} : Runs (Ite K a) xs.length (fun H => SqL K H a xs) (fun i H v H' => ∃ T x, v = .ref T ∧ H T = none ∧ H' = upd H T (.tup [.int (i : Nat), x]) ∧ xs[i]? = some x) :=
  ⟨fun i H h hi => ⟨xs, xs[i], h, List.getElem?_eq_getElem hi⟩, fun i H h hi => ⟨xs, h, hi⟩, fun i H x H' h hi ⟨T, x, a, b, c, d⟩ => ⟨T, x, a, b, c, d xs h⟩⟩
theorem runs_keys {d : Addr} {o : Obj} {kvs : List (Key × V)} : Runs (Itk d o kvs) kvs.length (fun H => H d = some (.frz o (.dK kvs))) (fun i H x H' => H' = H ∧ ∃ k v, kvs[i]? = some (k, v) ∧ x = kV k) :=
  ⟨fun i H h hi => ⟨h, hi⟩, fun i H h hi => ⟨h, hi⟩, fun i H x H' h hi y => y⟩
theorem runs_items {d : Addr} {o : Obj} {kvs : List (Key × V)} : Runs (Iti d o kvs) kvs.length (fun H => H d = some (.frz o (.dK kvs))) (fun i H x H' => ∃ T k v, kvs[i]? = some (k, v) ∧ x = .ref T ∧ H T = none ∧ H' = upd H T (.tup [kV k, v])) :=
  ⟨fun i H h hi => ⟨h, hi⟩, fun i H h hi => ⟨h, hi⟩, fun i H x H' h hi y => y⟩
theorem runs_vals {d : Addr} {o : Obj} {kvs : List (Key × V)} : Runs (Itd d o kvs) kvs.length (fun H => H d = some (.frz o (.dK kvs))) (fun i H x H' => H' = H ∧ ∃ k, kvs[i]? = some (k, x)) :=
  ⟨fun i H h hi => ⟨h, hi⟩, fun i H h hi => ⟨h, hi⟩, fun i H x H' h hi y => y⟩
theorem runs_str {x : Str} : Runs (Its x) x.cps.size (fun _ => True) (fun i H v H' => H' = H ∧ ∃ c, x.cps[i]? = some c ∧ v = .str ⟨#[c]⟩) := ⟨fun _ _ _ h => h, fun _ _ _ h => h, fun _ _ _ _ _ _ h => h⟩
theorem runs_zip {K : PySem.W.Frag} {a b : Addr} {xs ys : List V} (hl : xs.length = ys.length) : Runs (Itz K a b) xs.length (fun H => SqL K H a xs ∧ SqL K H b ys)
    (fun i H v H' => ∃ T x y, v = .ref T ∧ H T = none ∧ H' = upd H T (.tup [x, y]) ∧ xs[i]? = some x ∧ ys[i]? = some y) :=
  ⟨fun i H h hi => ⟨xs, ys, xs[i], ys[i], h.1, h.2, List.getElem?_eq_getElem hi, List.getElem?_eq_getElem (by omega)⟩, fun i H h hi => ⟨xs, ys, h.1, h.2, .inl hi⟩,
    fun i H x H' h hi ⟨T, x, y, a, b, c, d, e⟩ => ⟨T, x, y, a, b, c, d xs h.1, e ys h.2⟩⟩

section
variable {J : It} {n : Nat} {G : Hp → Prop} {Y : Nat → Hp → V → Hp → Prop} {g : TG}
theorem for_runs {tb : TS} {nx : L2.St → Hp → Prop} {rt : VK} {σ : L2.St} {H : Hp} (r : Runs J n G Y) (Pv : Nat → L2.St → Hp → Prop) (h0 : Pv 0 σ H) (hG : ∀ i σ H, Pv i σ H → G H)
    (hs : ∀ i σ H x H', i < n → Pv i σ H → Y i H x H' → g x σ H' fun σ2 H2 => tb { nx := Pv (i + 1), rt := rt, bk := nx, ct := Pv (i + 1) } σ2 H2) (hd : ∀ σ H, Pv n σ H → nx σ H) :
    ∃ W : Nat → Nat → L2.St → Hp → Prop, (∃ m, W 0 m σ H) ∧ ∀ i m σ H, W i m σ H →
      (J.stop i H ∧ nx σ H) ∨ (J.go i H ∧ ∃ N : L2.St → Hp → Prop, (∀ σ' H', N σ' H' → ∃ m', m' < m ∧ W (i + 1) m' σ' H') ∧ ∀ x H', J.yld i H x H' → g x σ H' fun σ2 H2 => tb { nx := N, rt := rt, bk := nx, ct := N } σ2 H2) := by
  refine ⟨fun i m σ H => m = n - i ∧ i ≤ n ∧ Pv i σ H, ⟨n, by simp, Nat.zero_le _, h0⟩, ?_⟩
  rintro i m σ H ⟨rfl, hi, p⟩
  have q := hG i σ H p
  by_cases hlt : i < n
  · exact .inr ⟨r.go i H q hlt, Pv (i + 1), fun σ' H' p' => ⟨n - (i + 1), by omega, rfl, hlt, p'⟩, fun x H' y => hs i σ H x H' hlt p (r.yl i H x H' q hlt y)⟩
  · have e : i = n := by omega
    subst e
    exact .inl ⟨r.stop i H q (Nat.le_refl _), hd σ H p⟩
theorem lc_runs {tt : TT} {te : TE} {vs : List Nat} {σ : L2.St} {H1 : Hp} {D : Addr} {Qd : Hp → Prop} (r : Runs J n G Y) (Pv : Nat → Hp → Prop) (h0 : Pv 0 (upd H1 D (.lst []))) (hG : ∀ i H, Pv i H → G H)
    (hs : ∀ i H x H', i < n → Pv i H → Y i H x H' → g x (wipe σ vs) H' fun σ2 H2 => wipe σ2 vs = wipe σ vs ∧ tt σ2 H2 fun b H3 =>
      if b = true then te σ2 H3 fun y H4 => ∃ acc, H4 D = some (.lst acc) ∧ acc.length < sizeLine ∧ Pv (i + 1) (upd H4 D (.lst (acc ++ [y]))) else Pv (i + 1) H3) (hd : ∀ H, Pv n H → Qd H) :
    ∃ W : Nat → Nat → Hp → Prop, (∃ m, W 0 m (upd H1 D (.lst []))) ∧ ∀ i m H, W i m H →
      (J.stop i H ∧ Qd H) ∨ (J.go i H ∧ ∃ Nx : Hp → Prop, (∀ H', Nx H' → ∃ m', m' < m ∧ W (i + 1) m' H') ∧ ∀ x H', J.yld i H x H' → g x (wipe σ vs) H' fun σ2 H2 => wipe σ2 vs = wipe σ vs ∧ tt σ2 H2 fun b H3 =>
        if b = true then te σ2 H3 fun y H4 => ∃ acc, H4 D = some (.lst acc) ∧ acc.length < sizeLine ∧ Nx (upd H4 D (.lst (acc ++ [y]))) else Nx H3) := by
  refine ⟨fun i m H => m = n - i ∧ i ≤ n ∧ Pv i H, ⟨n, by simp, Nat.zero_le _, h0⟩, ?_⟩
  rintro i m H ⟨rfl, hi, p⟩
  have q := hG i H p
  by_cases hlt : i < n
  · exact .inr ⟨r.go i H q hlt, Pv (i + 1), fun H' p' => ⟨n - (i + 1), by omega, rfl, hlt, p'⟩, fun x H' y => hs i H x H' hlt p (r.yl i H x H' q hlt y)⟩
  · have e : i = n := by omega
    subst e
    exact .inl ⟨r.stop i H q (Nat.le_refl _), hd H p⟩
end
section
variable {σ : L2.St} {H : Hp} {Q : VK} {v : V} {K : PySem.W.Frag}
theorem s_for {wi : TI} {g : TG} {tb : TS} {D : Ends} (h : wi σ H fun J H1 => ∃ W : Nat → Nat → L2.St → Hp → Prop, (∃ m, W 0 m σ H1) ∧ ∀ i m σ H, W i m σ H →
  (J.stop i H ∧ D.nx σ H) ∨ (J.go i H ∧ ∃ N : L2.St → Hp → Prop, (∀ σ' H', N σ' H' → ∃ m', m' < m ∧ W (i + 1) m' σ' H') ∧ ∀ x H', J.yld i H x H' → g x σ H' fun σ2 H2 => tb { D with nx := N, ct := N, bk := D.nx } σ2 H2)) : tFor wi g tb D σ H := h
theorem s_sl {r : V → Option Int → Option Int → Hp → VK → Prop} {te : TE} {tl th : TO} (h : te σ H fun x H1 => tl σ H1 fun l H2 => th σ H2 fun u H3 => r x l u H3 Q) : tSl r te tl th σ H Q := h
theorem s_nopart {R : Option Int → Hp → Prop} (h : R none H) : tNoPart σ H R := h
theorem s_part {te : TE} {R : Option Int → Hp → Prop} (h : te σ H fun x H1 => ∃ i, x = .int i ∧ R (some i) H1) : tPart te σ H R := h
theorem s_int {a : Int} {P : Int → Prop} (h : P a) : ∃ b, V.int a = V.int b ∧ P b := ⟨a, rfl, h⟩
theorem s_2i {a b : Int} {P : Int → Int → Prop} (h : P a b) : ∃ c d, [V.int a, V.int b] = [V.int c, V.int d] ∧ P c d := ⟨a, b, rfl, h⟩
theorem s_gtupN {n : Nat} {t : TGs} {p : Addr} {xs : List V} {R : L2.St → Hp → Prop} (hn : xs.length = n) (h : t xs σ (upd H p (.tup xs)) R) : gTup K n t (.ref p) σ (upd H p (.tup xs)) R := ⟨p, xs, rfl, .of upd_same, hn, h⟩
theorem s_gcons {t : TG} {u : TGs} {r : List V} {R : L2.St → Hp → Prop} (h : t v σ H fun σ' H' => u r σ' H' R) : gCons t u (v :: r) σ H R := ⟨v, r, rfl, h⟩
theorem s_gnil {R : L2.St → Hp → Prop} (h : R σ H) : gNil [] σ H R := ⟨rfl, h⟩
theorem s_new {xs : List V} {P : Prop} (hl : Nat.ble xs.length 64 = true) (h : P) : xs.length ≤ sizeLine ∧ P := ⟨Nat.le_trans (Nat.le_of_ble_eq_true hl) (by decide), h⟩
theorem s_ilist {tl : TE} {R : It → Hp → Prop} (h : tl σ H fun x H1 => ∃ a, x = .ref a ∧ (∃ xs, SqL K H1 a xs) ∧ R (Itl K a) H1) : iList K tl σ H R := h
theorem s_ienum {ta : TA} {R : It → Hp → Prop} (h : ta σ H fun vs H1 => ∃ a xs, vs = [.ref a] ∧ SqL K H1 a xs ∧ R (Ite K a) H1) : iEnum K ta σ H R := h
theorem s_izip {ta : TA} {R : It → Hp → Prop} (h : ta σ H fun vs H1 => ∃ a b xs ys, vs = [.ref a, .ref b] ∧ SqL K H1 a xs ∧ SqL K H1 b ys ∧ R (Itz K a b) H1) : iZip K ta σ H R := h
theorem s_istr {te : TE} {R : It → Hp → Prop} (h : te σ H fun v H1 => ∃ x, v = .str x ∧ R (Its x) H1) : iStr te σ H R := h
theorem s_ikeys {td : TE} {R : It → Hp → Prop} (h : td σ H fun x H1 => ∃ d o, x = .ref d ∧ ((∃ kvs, H1 d = some (.frz o (.dK kvs)) ∧ R (Itk d o kvs) H1) ∨ ∃ kvs, H1 d = some (.frz o (.dT kvs)) ∧ R (Itkt d o kvs) H1)) : iKeys td σ H R := h
theorem s_iitems {td : TE} {R : It → Hp → Prop} (h : td σ H fun x H1 => ∃ d o kvs, x = .ref d ∧ H1 d = some (.frz o (.dK kvs)) ∧ R (Iti d o kvs) H1) : iItems td σ H R := h
theorem s_ivals {td : TE} {R : It → Hp → Prop} (h : td σ H fun x H1 => ∃ d o kvs, x = .ref d ∧ H1 d = some (.frz o (.dK kvs)) ∧ R (Itd d o kvs) H1) : iVals td σ H R := h
theorem s_eqI {a b : Int} (h : Q (.bl (decide (a = b))) H) : rEq (.int a) (.int b) H Q := ⟨rfl, by
  rw [show decide (V.int a = V.int b) = decide (a = b) from by simp]; exact h⟩
theorem s_neI {a b : Int} (h : Q (.bl (!decide (a = b))) H) : rNe (.int a) (.int b) H Q := ⟨rfl, by
  rw [show decide (V.int a = V.int b) = decide (a = b) from by simp]; exact h⟩
theorem s_eqS {a b : Str} (h : Q (.bl (decide (a = b))) H) : rEq (.str a) (.str b) H Q := ⟨rfl, by
  rw [show decide (V.str a = V.str b) = decide (a = b) from by simp]; exact h⟩
theorem s_neS {a b : Str} (h : Q (.bl (!decide (a = b))) H) : rNe (.str a) (.str b) H Q := ⟨rfl, by
  rw [show decide (V.str a = V.str b) = decide (a = b) from by simp]; exact h⟩
theorem s_eqB {a b : Bool} (h : Q (.bl (decide (a = b))) H) : rEq (.bl a) (.bl b) H Q := ⟨rfl, by
  rw [show decide (V.bl a = V.bl b) = decide (a = b) from by simp]; exact h⟩
theorem s_neB {a b : Bool} (h : Q (.bl (!decide (a = b))) H) : rNe (.bl a) (.bl b) H Q := ⟨rfl, by
  rw [show decide (V.bl a = V.bl b) = decide (a = b) from by simp]; exact h⟩
theorem ite_d {p : Prop} [Decidable p] {A B : Prop} (h1 : p → A) (h2 : ¬ p → B) : if decide p = true then A else B := ite_b (fun e => h1 (of_decide_eq_true e)) (fun e => h2 (of_decide_eq_false e))
theorem ite_n {p : Prop} [Decidable p] {A B : Prop} (h1 : ¬ p → A) (h2 : p → B) : if (!decide p) = true then A else B := ite_b (fun e => h1 (by simpa using e)) (fun e => h2 (by simpa using e))
theorem s_while {c : TT} {tb : TS} {D : Ends} (h : ∃ W : Nat → L2.St → Hp → Prop, (∃ m, W m σ H) ∧ ∀ m σ H, W m σ H →
  c σ H fun b H1 => if b = true then ∃ N : L2.St → Hp → Prop, (∀ σ' H', N σ' H' → ∃ m', m' < m ∧ W m' σ' H') ∧ tb { D with nx := N, ct := N, bk := D.nx } σ H1 else D.nx σ H1) : tWhile c tb D σ H := h
theorem s_truU {ta : TE} {R : Bool → Hp → Prop} (h : ta σ H fun x H' => ∃ k, TruU K x H' k ∧ R k H') : tTruU K ta σ H R := h
theorem inV_str (x : Str) : ∀ xs : List Str, inV (.str x) (xs.map V.str) = decide (x ∈ xs)
  | [] => by simp [inV]
  | y :: r => by
    have ih := inV_str x r
    unfold inV at ih ⊢
    rw [List.map_cons, List.any_cons, ih]
    show ((y == x) || decide (x ∈ r)) = decide (x ∈ y :: r)
    by_cases e : y = x
    · subst e; simp
    · have : (y == x) = false := by simpa using e
      rw [this, Bool.false_or]
      have : ¬ x = y := fun z => e z.symm
      simp [this]
theorem flat_strs (xs : List Str) : (xs.map V.str).all flatV = true := by
  rw [List.all_eq_true]
  intro x hx
  obtain ⟨y, _, rfl⟩ := List.mem_map.mp hx
  rfl
/-- two ways meet: C is found by the first that goes on -/
theorem join2 {α β : Type} {G : Prop} (P C : α → β → Prop) (h1 : (∀ a b, P a b → C a b) → G) (h2 : ∀ a b, P a b → C a b) : G := h1 h2
theorem join1 {α : Type} {G : Prop} (P C : α → Prop) (h1 : (∀ a, P a → C a) → G) (h2 : ∀ a, P a → C a) : G := h1 h2
theorem ite_eqs {α : Type} {a : α} [Decidable (a = a)] {A B : Prop} (h : A) : if decide (a = a) = true then A else B := ite_t (decide_eq_true rfl) h
theorem ite_nes {α : Type} {a : α} [Decidable (a = a)] {A B : Prop} (h : B) : if (!decide (a = a)) = true then A else B := ite_f (by rw [decide_eq_true rfl]; rfl) h
theorem ite_nt {A B : Prop} (h : B) : if (!true) = true then A else B := ite_f rfl h
theorem ite_nf {A B : Prop} (h : A) : if (!false) = true then A else B := ite_t rfl h
theorem ite_tt {A B : Prop} (h : A) : if true = true then A else B := iteT h
theorem ite_ff {A B : Prop} (h : B) : if false = true then A else B := iteF h
end
end RG

/-! names: one to eight signs -/
namespace RG
open PySem PySem.Spec PyProof.Rows L2
def letS : Str := "abcdefghijklmnopqrstuvwxyz"
def sigS : Str := "abcdefghijklmnopqrstuvwxyz0123456789"
def letC : List Nat := [97, 98, 99, 100, 101, 102, 103, 104, 105, 106, 107, 108, 109, 110, 111, 112, 113, 114, 115, 116, 117, 118, 119, 120, 121, 122]
def sigC : List Nat := [97, 98, 99, 100, 101, 102, 103, 104, 105, 106, 107, 108, 109, 110, 111, 112, 113, 114, 115, 116, 117, 118, 119, 120, 121, 122, 48, 49, 50, 51, 52, 53, 54, 55, 56, 57]
theorem letS_codes : letS.cps.toList = letC := by decide +kernel
theorem sigS_codes : sigS.cps.toList = sigC := by decide +kernel
theorem let_sig : ∀ c ∈ letC, c ∈ sigC := by decide
structure NameOk (x : Str) : Prop where
  lo : 1 ≤ x.length
  hi : x.length ≤ 8
  first : ∃ c, x.cps.toList[0]? = some c ∧ c ∈ letC
  all : ∀ c ∈ x.cps.toList, c ∈ sigC
theorem str_app (x y : Str) : (x ++ y).cps.toList = x.cps.toList ++ y.cps.toList := by
  show (x.cps ++ y.cps).toList = _
  simp
theorem str_len (x : Str) : x.length = x.cps.toList.length := by simp [Str.length]
theorem str_ext {x y : Str} (h : x.cps.toList = y.cps.toList) : x = y := by
  obtain ⟨⟨a⟩⟩ := x
  obtain ⟨⟨b⟩⟩ := y
  have e : a = b := h
  rw [e]
theorem one_len (c : Nat) : (⟨#[c]⟩ : Str).length = 1 := rfl
/-- a sign behind a name's first signs -/
theorem NameOk.app {x : Str} {c : Nat} (h : NameOk x) (hl : x.length ≤ 7) (hc : c ∈ sigC) : NameOk (x ++ ⟨#[c]⟩) := by
  obtain ⟨f, e, hf⟩ := h.first
  refine ⟨?_, ?_, ⟨f, ?_, hf⟩, ?_⟩
  · rw [StrLaws_len]; have := h.lo; omega
  · rw [StrLaws_len]; omega
  · rw [str_app, List.getElem?_append_left (by have := h.lo; rw [str_len] at this; omega)]; exact e
  · intro d hd
    rw [str_app] at hd
    rcases List.mem_append.mp hd with hd | hd
    · exact h.all d hd
    · have : d = c := by simpa using hd
      rw [this]; exact hc
where StrLaws_len : (x ++ (⟨#[c]⟩ : Str)).length = x.length + 1 := by rw [str_len, str_app, List.length_append, ← str_len]; rfl
theorem NameOk.one {c : Nat} (hc : c ∈ letC) : NameOk ⟨#[c]⟩ := ⟨by rw [one_len]; omega, by rw [one_len]; omega, ⟨c, rfl, hc⟩, fun d hd => by
  have : d = c := by simpa using hd
  rw [this]; exact let_sig c hc⟩
theorem atA {α : Type} {xs : List α} {v : α} {j : Nat} {i : Int} (e : xs[j]? = some v) (hi : i = (j : Int)) : atI xs i = some v := by subst hi; exact atI_nat e
/-- the sign at a drawn place -/
theorem sig_at {d : Int} (h0 : 0 ≤ d) (h1 : d < 36) : ∃ c, atI sigS.cps.toList d = some c ∧ c ∈ sigC := by
  have hd : d.toNat < sigC.length := by show d.toNat < 36; omega
  exact ⟨sigC[d.toNat], by rw [sigS_codes]; exact atA (j := d.toNat) (List.getElem?_eq_getElem hd) (by omega), List.getElem_mem hd⟩
theorem sig_let {d : Int} (h0 : 0 ≤ d) (h1 : d < 26) : ∃ c, atI sigS.cps.toList d = some c ∧ c ∈ letC := by
  have hd : d.toNat < letC.length := by show d.toNat < 26; omega
  have e : sigC[d.toNat]? = some letC[d.toNat] := by
    rw [show sigC = letC ++ [48, 49, 50, 51, 52, 53, 54, 55, 56, 57] from rfl, List.getElem?_append_left hd, List.getElem?_eq_getElem hd]
  exact ⟨letC[d.toNat], by rw [sigS_codes]; exact atA (j := d.toNat) e (by omega), List.getElem_mem hd⟩
theorem let_at {d : Int} (h0 : 0 ≤ d) (h1 : d < 26) : atI letS.cps.toList d = some (letC.getD d.toNat 0) ∧ letC.getD d.toNat 0 ∈ letC := by
  have hd : d.toNat < letC.length := by show d.toNat < 26; omega
  have e : letC.getD d.toNat 0 = letC[d.toNat] := by rw [List.getD_eq_getElem?_getD, List.getElem?_eq_getElem hd]; rfl
  rw [e, letS_codes]
  exact ⟨atA (j := d.toNat) (List.getElem?_eq_getElem hd) (by omega), List.getElem_mem hd⟩
/-! ### the names tried, one behind the other -/
def numS (m : Nat) : Str := Str.ofString (toString (m : Int))
def cand (k j : Nat) : Str := ⟨#[letC.getD (j % 26) 0]⟩ ++ numS (j / 26 + k)
theorem digs : ∀ m < 400, 1 ≤ ((Nat.toDigits 10 m).map Char.toNat).length ∧ ((Nat.toDigits 10 m).map Char.toNat).length ≤ 3 ∧ ∀ c ∈ (Nat.toDigits 10 m).map Char.toNat, c ∈ sigC := by decide +kernel
theorem numS_codes (m : Nat) : (numS m).cps.toList = (Nat.toDigits 10 m).map Char.toNat := PySem.W.KIN.signs_num m
theorem numS_inj {a b : Nat} (ha : a < 1000) (hb : b < 1000) (h : numS a = numS b) : a = b := by
  have h1 := PySem.W.KIN.num_reads (n := (a : Int)) (by omega) (by omega)
  have h2 := PySem.W.KIN.num_reads (n := (b : Int)) (by omega) (by omega)
  have h' : Str.ofString (toString (a : Int)) = Str.ofString (toString (b : Int)) := h
  rw [h', h2] at h1
  have := Option.some.inj h1
  omega
theorem letC_inj : ∀ a < 26, ∀ b < 26, letC.getD a 0 = letC.getD b 0 → a = b := by decide +kernel
theorem letC_mem : ∀ a < 26, letC.getD a 0 ∈ letC := by decide +kernel
theorem cand_codes (k j : Nat) : (cand k j).cps.toList = letC.getD (j % 26) 0 :: (numS (j / 26 + k)).cps.toList := by
  unfold cand
  rw [str_app]; rfl
theorem cand_ok {k j : Nat} (hk : k ≤ 100) (hj : j ≤ 100) : NameOk (cand k j) := by
  obtain ⟨a, b, c⟩ := digs (j / 26 + k) (by omega)
  have hl : (cand k j).length = ((Nat.toDigits 10 (j / 26 + k)).map Char.toNat).length + 1 := by rw [str_len, cand_codes, List.length_cons, numS_codes]
  refine ⟨by omega, by omega, ⟨letC.getD (j % 26) 0, by rw [cand_codes]; rfl, letC_mem _ (Nat.mod_lt _ (by decide))⟩, fun d hd => ?_⟩
  rw [cand_codes, numS_codes] at hd
  rcases List.mem_cons.mp hd with e | hd
  · rw [e]; exact let_sig _ (letC_mem _ (Nat.mod_lt _ (by decide)))
  · exact c d hd
theorem cand_inj {k i j : Nat} (hk : k ≤ 100) (hi : i ≤ 100) (hj : j ≤ 100) (h : cand k i = cand k j) : i = j := by
  have e : (cand k i).cps.toList = (cand k j).cps.toList := by rw [h]
  rw [cand_codes, cand_codes] at e
  injection e with e1 e2
  have m1 := letC_inj _ (Nat.mod_lt i (by decide)) _ (Nat.mod_lt j (by decide)) e1
  have m2 := numS_inj (by omega) (by omega) (str_ext e2)
  omega
/-- among a list's fewer names one that was tried is missing -/
theorem cand_few {k n : Nat} (hk : k ≤ 100) (hn : n ≤ 100) {l : List Str} (h : ∀ j < n, cand k j ∈ l) : n ≤ l.length := by
  have nd : ((List.range n).map (cand k)).Nodup := by
    rw [List.nodup_iff_pairwise_ne, List.pairwise_map]
    refine List.Pairwise.imp_of_mem ?_ (List.nodup_iff_pairwise_ne.mp List.nodup_range)
    intro a b ha hb hab e
    have h1 := List.mem_range.mp ha
    have h2 := List.mem_range.mp hb
    exact hab (cand_inj hk (by omega) (by omega) e)
  have sub : ∀ x ∈ (List.range n).map (cand k), x ∈ l := by
    intro x hx
    obtain ⟨j, hj, rfl⟩ := List.mem_map.mp hx
    exact h j (List.mem_range.mp hj)
  have := nodup_le nd sub
  simpa using this
where nodup_le {α : Type} [DecidableEq α] : ∀ {a b : List α}, a.Nodup → (∀ x ∈ a, x ∈ b) → a.length ≤ b.length
  | [], _, _, _ => by simp
  | x :: r, b, nd, h => by
    have hx := h x List.mem_cons_self
    obtain ⟨hn, nd'⟩ := List.nodup_cons.mp nd
    have ih := nodup_le (a := r) (b := b.erase x) nd' fun y hy => (List.mem_erase_of_ne (fun z => hn (by rw [← z]; exact hy))).mpr (h y (List.mem_cons_of_mem _ hy))
    rw [List.length_erase_of_mem hx] at ih
    have : 0 < b.length := List.length_pos_of_mem hx
    rw [List.length_cons]; omega
end RG

/-! arcs as data -/
namespace RG
open PySem PySem.Spec PyProof.Rows L2
abbrev Arcs := List (Str × Int × Int)
def arcD (a : Int × Int) : PyData := .tuple [.int a.1, .int a.2]
def kvsD (A : Arcs) : List (PyData × PyData) := A.map fun a => (.str a.1, arcD a.2)
def arcsD (A : Arcs) : PyData := .dict (kvsD A)
structure ArcsOk (h : Int) (A : Arcs) : Prop where
  names : ∀ a ∈ A, NameOk a.1
  nd : (A.map (·.1)).Nodup
  st : ∀ a ∈ A, 0 ≤ a.2.1 ∧ a.2.1 < h
  ln : ∀ a ∈ A, 1 ≤ a.2.2 ∧ a.2.2 ≤ h
/-- a pair of ints -/
theorem Im.pair {S : List Addr} {H : Hp} {p : Addr} {x y : Int} (hs : p ∉ S) (e : H p = some (.tup [.int x, .int y])) : Im S H (.ref p) (arcD (x, y)) :=
  .tup hs (.inl e) (.cons (.int x) (.cons (.int y) .nil))
theorem Im.pair_inv {S : List Addr} {H : Hp} {v : V} {a : Int × Int} (h : Im S H v (arcD a)) : ∃ p, v = .ref p ∧ p ∉ S ∧ Rd H p (.tup [.int a.1, .int a.2]) := by
  cases h with
  | @tup p xs ds n r al =>
    cases al with
    | cons h1 t =>
      cases t with
      | cons h2 t2 =>
        cases t2
        cases h1
        cases h2
        exact ⟨p, rfl, n, r⟩
/-- an arc more -/
theorem ImKv.snoc {S : List Addr} {H : Hp} {k : Key} {v : V} {d : PyData} : ∀ {kvs : List (Key × V)} {ds : List (PyData × PyData)}, ImKv S H kvs ds → Im S H v d → ImKv S H (kvs ++ [(k, v)]) (ds ++ [(kD k, d)])
  | _, _, .nil, h => .cons h .nil
  | _, _, .cons a t, h => .cons a (ImKv.snoc t h)
theorem ImKv.keys {S : List Addr} {H : Hp} : ∀ {kvs : List (Key × V)} {ds : List (PyData × PyData)}, ImKv S H kvs ds → ds.map (·.1) = kvs.map fun kv => kD kv.1
  | _, _, .nil => rfl
  | _, _, .cons a t => by rw [List.map_cons, List.map_cons, ImKv.keys t]
theorem kD_map {ks : List Key} {xs : List Str} (h : ks.map kD = xs.map PyData.str) : ks = xs.map Sum.inr := by
  induction ks generalizing xs with
  | nil => cases xs with
    | nil => rfl
    | cons x r => simp at h
  | cons k r ih => cases xs with
    | nil => simp at h
    | cons x t =>
      rw [List.map_cons, List.map_cons] at h
      injection h with h1 h2
      rw [ih h2, List.map_cons]
      cases k with
      | inl i => cases h1
      | inr z => cases h1; rfl
theorem kvs_keys {S : List Addr} {H : Hp} {A : Arcs} {kvs : List (Key × V)} (h : ImKv S H kvs (kvsD A)) : kvs.map (·.1) = (A.map (·.1)).map Sum.inr := by
  have e := h.keys
  refine kD_map ?_
  rw [List.map_map, List.map_map]
  show (kvs.map fun kv => kD kv.1) = _
  rw [← e]
  unfold kvsD
  rw [List.map_map]; rfl
theorem inr_nodup {xs : List Str} (h : xs.Nodup) : (xs.map (Sum.inr : Str → Key)).Nodup := by
  rw [List.nodup_iff_pairwise_ne, List.pairwise_map]
  exact (List.nodup_iff_pairwise_ne.mp h).imp fun hab z => hab (by injection z)
theorem putK_new {κ : Type} [DecidableEq κ] {kvs : List (κ × V)} {k : κ} {v : V} (h : k ∉ kvs.map (·.1)) : putK kvs k v = kvs ++ [(k, v)] := by
  unfold putK
  rw [if_neg]
  intro z
  obtain ⟨p, hp, e⟩ := List.any_eq_true.mp z
  exact h (List.mem_map.mpr ⟨p, hp, of_decide_eq_true e⟩)
theorem s_dnew {H : Hp} {Q : VK} {σ : L2.St} (h : ∀ d, H d = none → Q (.ref d) (upd H d (.dK []))) : tDNewK σ H Q := h
/-- the step of two draws' work: a multiple below -/
theorem step_mul {d t : Int} (h0 : 0 ≤ d) (ht : 1 ≤ t) : 0 ≤ d / t * t ∧ d / t * t ≤ d ∧ 0 ≤ d / t ∧ d / t ≤ d :=
  have a : 0 ≤ d / t := Int.ediv_nonneg h0 (by omega)
  ⟨Int.mul_nonneg a (by omega), Int.ediv_mul_le d (by omega), a, Int.ediv_le_self t h0⟩
end RG

/-! dicts that are only read: items, walks with or without a lock; zip of lists or tuples -/
namespace RG
open PySem PySem.Spec PyProof.Rows L2
section
variable {X : Cx}
/-- list(d.items()): a new list of new pairs -/
def tLItems (te : TE) : TE := fun σ H Q => te σ H fun x H1 => ∃ (d : Addr) (kvs : List (Key × V)), x = .ref d ∧ Rd H1 d (.dK kvs) ∧
  ∀ (H' : Hp) (l : Addr) (as : List Addr), (∀ b o, H1 b = some o → H' b = some o) → H1 l = none → (∀ t ∈ as, H1 t = none) → l ∉ as → H' l = some (.lst (as.map V.ref)) → Paired (fun (t : Addr) (q : Key × V) => H' t = some (.tup [kV q.1, q.2])) as kvs → Q (.ref l) H'
theorem pe_litems {e : Expr} {te : TE} {p ap cp pos : Pos} (calm : X.calm = true) (he : PE X e te) (gl : Gl X "list") (fr : X.mg "list" = none)
    (hb : attributeBase e "items" X.env (eval e X.env) = eval e X.env := by rfl) (hl : (ap.endLine == cp.line) = true := by rfl)
    (hs : starEach [.Call (.Attribute e "items" ap) [] [] cp] X.env = (false, eval (.Call (.Attribute e "items" ap) [] [] cp) X.env) :: starEach [] X.env := by rfl) :
    PE X (.Call (.Name "list" p) [.Call (.Attribute e "items" ap) [] [] cp] [] pos) (tLItems te) := by
  constructor
  intro pins s σ H Q I hq
  refine wpAny_Call_Name_kw (ld_blt I gl fr (by decide +kernel : bootBuiltins "list" = some (.type "list")) (PyProof.Rows.callWith_type1 ?_ hs rfl))
  rw [hs]
  refine Calls.spliced_cons (wpAny_Call_method (T := "dict") (id := "dict.items") hb rfl hl F.plainAttrs_dict F.slot_dict_items F.type_dict_items ?_)
  refine thn (he.run pins s σ H _ I hq) fun u s1 ⟨x, H1, J, rx, d, kvs, ex, rd, q⟩ => ?_
  subst ex
  obtain rfl : u = Value.ref d := rx
  obtain ⟨len, sysm, vs, kv, dOf⟩ := dk_rd J.hok rd
  obtain ⟨ep, at_⟩ := dOf.dictAt
  have same : kvs.length = vs.length := Paired.length kv
  have J2 : Inv X pins σ H1 { s1 with heap := s1.heap.push { cls := .type "dict_items", data := .fields #[.ref d] } } :=
    J.kept (t' := s1.toks) fun b o => Heap.get?_push_of_some _
  refine ⟨dOf.typeIs, dOf.mapOf.noDict, method_meetsIn F.slot_dict_items F.entry_dict_items rfl (PySem.evalArgs_none ?_)⟩
  refine ⟨rfl, dOf.typeIs, F.args_dict_items_1 _, _, meets_dict_items (mixKind X.prog X.w) d sysm, ⟨vs, dOf⟩, Calls.spliced_nil ?_⟩
  refine PySem.W.kdx_call (knd := mixKind X.prog X.w) (kvs := vs) (ep := ep) (J.ok.hd calm) ⟨_, Heap.get?_push_size _ rfl, rfl, rfl⟩ (at_.push _) (by omega) ?_
  intro h' tk acc c as k1 k2 k3 k4 k5
  obtain ⟨H', a1, a2, a3, a4, a5, a6, Z⟩ := LiI.items_laid (tk := tk) J2 len kv k1 k2 k3 k4 k5
  exact ⟨.ref _, H', Z, rfl, q H' _ as a1 a2 a3 a4 a5 a6⟩
/-- two readings of one: either is enough -/
theorem PE.or {e : Expr} {t u : TE} (a : PE X e t) (b : PE X e u) : PE X e (fun σ H Q => t σ H Q ∨ u σ H Q) := ⟨fun pins s σ H Q I h => h.elim (a.run pins s σ H Q I) (b.run pins s σ H Q I)⟩
theorem PS.or {e : Stmt} {t u : TS} (a : PS X e t) (b : PS X e u) : PS X e (fun D σ H => t D σ H ∨ u D σ H) := ⟨fun pins s σ H D I h => h.elim (a.run pins s σ H D I) (b.run pins s σ H D I)⟩
/-- a built-in class by its name, as a value -/
theorem pe_tyn (T : String) {x : Str} {pos : Pos} (hm : X.mg x = none) (hg : Gl X x := by rfl) (hv : bootBuiltins x = some (.type T) := by decide +kernel) (hn : x ≠ "__name__" := by decide) (hd : (x == ("__debug__" : Str)) = false := by decide) : PE X (.Name x pos) (tC (.ty T)) :=
  pe_bltn hg hm hv (v := .ty T) rfl hn hd
/-- a walk over a dict: locked here, or locked already -/
def tLockU (t : TE) : TE := fun σ H Q => tLockE t σ H Q ∨ t σ H Q
def sLockU (t : TS) : TS := fun D σ H => tLock t D σ H ∨ t D σ H
theorem pe_lockU {e : Expr} {t : TE} (a : PE X e t) : PE X e (tLockU t) := PE.or (pe_lock a) a
theorem ps_lockU {e : Stmt} {t : TS} (a : PS X e t) : PS X e (sLockU t) := PS.or (ps_lock a) a
theorem ki_zipA (K : PySem.W.Frag) {e e2 : Expr} {ta : TA} {p pos tpos : Pos} {elts : List Expr} {kk : Nat} (hg : Gl X "zip") (hm : X.mg "zip" = none) (ha : PA X [e, e2] ta)
    (hs : starEach [e, e2] X.env = (false, eval e X.env) :: starEach [e2] X.env := by rfl) (hpl : (backTo pos (starEach [e2] X.env)).any (·.1) = false := by rfl) (hK : X.K = K := by rfl) :
    PI X (.Tuple elts kk tpos) (.Call (.Name "zip" p) [e, e2] [] pos) (RZ.iZipA K ta) := by subst hK; exact RZ.pi_zipA hg hm ha hs hpl
end
theorem runs_zipT {K : PySem.W.Frag} {a b : Addr} {xs ys : List V} (hl : xs.length = ys.length) : Runs (RZ.ItzT K a b) xs.length (fun H => SqT K H a xs ∧ SqT K H b ys)
    (fun i H v H' => ∃ T x y, v = .ref T ∧ H T = none ∧ H' = upd H T (.tup [x, y]) ∧ xs[i]? = some x ∧ ys[i]? = some y) :=
  ⟨fun i H h hi => ⟨xs, ys, xs[i], ys[i], h.1, h.2, List.getElem?_eq_getElem hi, List.getElem?_eq_getElem (by omega)⟩, fun i H h hi => ⟨xs, ys, h.1, h.2, .inl hi⟩,
    fun i H x H' h hi ⟨T, x, y, a, b, c, d, e⟩ => ⟨T, x, y, a, b, c, d xs h.1, e ys h.2⟩⟩
section
variable {σ : L2.St} {H : Hp} {Q : VK} {v : V} {K : PySem.W.Frag}
theorem s_zipA {ta : TA} {R : It → Hp → Prop} (h : ta σ H fun vs H1 => ∃ a b xs ys, vs = [.ref a, .ref b] ∧ ((SqL K H1 a xs ∧ SqL K H1 b ys ∧ R (Itz K a b) H1) ∨ (SqT K H1 a xs ∧ SqT K H1 b ys ∧ R (RZ.ItzT K a b) H1))) : RZ.iZipA K ta σ H R := h
theorem s_litems {te : TE} (h : te σ H fun x H1 => ∃ (d : Addr) (kvs : List (Key × V)), x = .ref d ∧ Rd H1 d (.dK kvs) ∧
  ∀ (H' : Hp) (l : Addr) (as : List Addr), (∀ b o, H1 b = some o → H' b = some o) → H1 l = none → (∀ t ∈ as, H1 t = none) → l ∉ as → H' l = some (.lst (as.map V.ref)) → Paired (fun (t : Addr) (q : Key × V) => H' t = some (.tup [kV q.1, q.2])) as kvs → Q (.ref l) H') : tLItems te σ H Q := h
end
/-- a walk's lock: by what is read of the dict; the walk sees it locked, what stays is put back -/
theorem lock_s {t : TS} {D : Ends} {σ : L2.St} {H : Hp} {d : Addr} {kvs : List (Key × V)} (r : Rd H d (.dK kvs))
    (h : ∀ (H1 : Hp) (od : Obj) (nx : L2.St → Hp → Prop) (rt : VK) (bk ct : L2.St → Hp → Prop), Rx [] H H1 → (∀ b, b ≠ d → H1 b = H b) → H1 d = some (.frz od (.dK kvs)) →
      (∀ σ' H', H' d = some (.frz od (.dK kvs)) → (∀ H2, Rx [] H' H2 → (∀ b, b ≠ d → H2 b = H' b) → H2 d = H d → D.nx σ' H2) → nx σ' H') →
      (∀ v H', H' d = some (.frz od (.dK kvs)) → (∀ H2, Rx [] H' H2 → (∀ b, b ≠ d → H2 b = H' b) → H2 d = H d → D.rt v H2) → rt v H') → t ⟨nx, rt, bk, ct⟩ σ H1) : sLockU t D σ H := by
  rcases r with r | ⟨o, r⟩
  · refine .inl ⟨d, .dK kvs, r, trivial, fun od => ?_⟩
    refine h _ od _ _ _ _ (Rx.lock r .d) (fun b hb => upd_ne hb) upd_same (fun σ' H' e k => ⟨e, k _ (Rx.unlock e) (fun b hb => upd_ne hb) (by rw [upd_same, r])⟩) (fun v H' e k => ⟨e, k _ (Rx.unlock e) (fun b hb => upd_ne hb) (by rw [upd_same, r])⟩)
  · refine .inr ?_
    have := h H o D.nx D.rt D.bk D.ct (Rx.refl _ _) (fun _ _ => rfl) r (fun σ' H' e k => k H' (Rx.refl _ _) (fun _ _ => rfl) (by rw [e, r])) (fun v H' e k => k H' (Rx.refl _ _) (fun _ _ => rfl) (by rw [e, r]))
    exact this
theorem lock_e {t : TE} {Q : VK} {σ : L2.St} {H : Hp} {d : Addr} {kvs : List (Key × V)} (r : Rd H d (.dK kvs))
    (h : ∀ (H1 : Hp) (od : Obj) (R : VK), Rx [] H H1 → (∀ b, b ≠ d → H1 b = H b) → H1 d = some (.frz od (.dK kvs)) →
      (∀ v H', H' d = some (.frz od (.dK kvs)) → (∀ H2, Rx [] H' H2 → (∀ b, b ≠ d → H2 b = H' b) → H2 d = H d → Q v H2) → R v H') → t σ H1 R) : tLockU t σ H Q := by
  rcases r with r | ⟨o, r⟩
  · refine .inl ⟨d, .dK kvs, r, trivial, fun od => ?_⟩
    exact h _ od _ (Rx.lock r .d) (fun b hb => upd_ne hb) upd_same (fun v H' e k => ⟨e, k _ (Rx.unlock e) (fun b hb => upd_ne hb) (by rw [upd_same, r])⟩)
  · exact .inr (h H o Q (Rx.refl _ _) (fun _ _ => rfl) r (fun v H' e k => k H' (Rx.refl _ _) (fun _ _ => rfl) (by rw [e, r])))

/-! ### how deep, how wide -/
mutual
def dep : PyData → Nat
  | .none | .bool _ | .int _ | .str _ => 0
  | .list xs | .tuple xs => depAll xs + 1
  | .dict kvs => depKv kvs + 3
def depAll : List PyData → Nat
  | [] => 0
  | x :: xs => max (dep x) (depAll xs)
def depKv : List (PyData × PyData) → Nat
  | [] => 0
  | (k, v) :: r => max (max (dep k) (dep v)) (depKv r)
end
mutual
def sm : PyData → Bool
  | .none | .bool _ => true
  | .int i => decide (i.natAbs < 2 ^ 100)
  | .str x => decide (x.length ≤ 1000)
  | .list xs | .tuple xs => decide (xs.length ≤ 1000) && smAll xs
  | .dict kvs => decide (kvs.length ≤ 1000) && smKv kvs
def smAll : List PyData → Bool
  | [] => true
  | x :: xs => sm x && smAll xs
def smKv : List (PyData × PyData) → Bool
  | [] => true
  | (k, v) :: r => sm k && sm v && smKv r
end
theorem depAll_mem : ∀ {xs : List PyData} {d : PyData}, d ∈ xs → dep d ≤ depAll xs
  | x :: r, d, h => by
    rw [depAll]
    rcases List.mem_cons.mp h with e | h
    · rw [e]; exact Nat.le_max_left _ _
    · exact Nat.le_trans (depAll_mem h) (Nat.le_max_right _ _)
theorem smAll_mem : ∀ {xs : List PyData} {d : PyData}, smAll xs = true → d ∈ xs → sm d = true
  | x :: r, d, hs, h => by
    rw [smAll, Bool.and_eq_true] at hs
    rcases List.mem_cons.mp h with e | h
    · rw [e]; exact hs.1
    · exact smAll_mem hs.2 h
def itemsD (ds : List (PyData × PyData)) : PyData := .list (ds.map fun p => .tuple [p.1, p.2])
theorem dep_items : ∀ ds : List (PyData × PyData), depAll (ds.map fun p => PyData.tuple [p.1, p.2]) ≤ depKv ds + 1
  | [] => by simp [depAll, depKv]
  | (k, v) :: r => by
    have ih := dep_items r
    rw [List.map_cons, depAll, depKv, dep, depAll, depAll, depAll]
    dsimp only
    omega
theorem sm_items : ∀ ds : List (PyData × PyData), smKv ds = true → smAll (ds.map fun p => PyData.tuple [p.1, p.2]) = true
  | [], _ => by simp [smAll]
  | (k, v) :: r, h => by
    rw [smKv, Bool.and_eq_true, Bool.and_eq_true] at h
    rw [List.map_cons, smAll, sm_items r h.2, sm, smAll, smAll, smAll, h.1.1, h.1.2]
    simp
theorem Im.key {S : List Addr} {H : Hp} : ∀ k : Key, Im S H (kV k) (kD k)
  | .inl i => .int i
  | .inr x => .str x
/-- the new pairs of list(d.items()) -/
theorem ImAll.items {S T : List Addr} {H H' : Hp} (g : ∀ b o, H b = some o → H' b = some o) (hT : ∀ a ∈ T, a ∈ S ∨ H a = none) : ∀ {kvs : List (Key × V)} {ds : List (PyData × PyData)} {as : List Addr}, ImKv S H kvs ds →
    Paired (fun (t : Addr) (q : Key × V) => H' t = some (.tup [kV q.1, q.2])) as kvs → (∀ t ∈ as, t ∉ T) → ImAll T H' (as.map V.ref) (ds.map fun p => .tuple [p.1, p.2])
  | _, _, _, .nil, .nil, _ => .nil
  | _, _, _, .cons h t, .cons e r, hn => .cons (.tup (hn _ List.mem_cons_self) (.inl e) (.cons (Im.key _) (.cons (Im.rx (fun a u _ _ z => z.elim (fun z => .inl (g a _ z)) (fun ⟨o, z⟩ => .inr ⟨o, g a _ z⟩)) _ (Im.sub hT _ h)) .nil)))
      (ImAll.items g hT t r fun a ha => hn a (List.mem_cons_of_mem _ ha))
/-- ImAll at an index, from the values -/
theorem ImAll.at_ {S : List Addr} {H : Hp} {vs : List V} {ds : List PyData} (h : ImAll S H vs ds) {i : Nat} {v : V} (e : vs[i]? = some v) : ∃ d, ds[i]? = some d ∧ Im S H v d := by
  have hi : i < ds.length := by rw [← h.length]; exact (List.getElem?_eq_some_iff.mp e).1
  obtain ⟨w, e2, q⟩ := h.get (List.getElem?_eq_getElem hi)
  rw [e] at e2
  cases e2
  exact ⟨_, List.getElem?_eq_getElem hi, q⟩
theorem Nx.ofSame {S : List Addr} {H H' : Hp} (g : ∀ b o, H b = some o → H' b = some o) : Nx S H H' := ⟨fun a o _ e => g a o e, fun a h => by
  cases e : H a with
  | none => exact absurd e h
  | some o => rw [g a o e]; simp⟩

/-! ### the six questions -/
def isDictD : PyData → Bool
  | .dict _ => true
  | _ => false
theorem isT_dict (d : PyData) : isT d "dict" = isDictD d := by
  cases d <;> first | exact (by decide +kernel : subT "NoneType" "dict" = false) | exact (by decide +kernel : subT "bool" "dict" = false) | exact (by decide +kernel : subT "int" "dict" = false) | exact (by decide +kernel : subT "str" "dict" = false) | exact (by decide +kernel : subT "list" "dict" = false) | exact (by decide +kernel : subT "tuple" "dict" = false) | exact (by decide +kernel : subT "dict" "dict" = true)
theorem s_isDict {S : List Addr} {H : Hp} {Q : VK} {x : V} {d : PyData} (i : Im S H x d) (h : Q (.bl (isDictD d)) H) : rIsD [x, .ty "dict"] H Q := s_isD i (by decide) (by rw [isT_dict]; exact h)
def isListD : PyData → Bool
  | .list _ => true
  | _ => false
theorem isT_list (d : PyData) : isT d "list" = isListD d := by
  cases d <;> first | exact (by decide +kernel : subT "NoneType" "list" = false) | exact (by decide +kernel : subT "bool" "list" = false) | exact (by decide +kernel : subT "int" "list" = false) | exact (by decide +kernel : subT "str" "list" = false) | exact (by decide +kernel : subT "list" "list" = true) | exact (by decide +kernel : subT "tuple" "list" = false) | exact (by decide +kernel : subT "dict" "list" = false)
theorem s_isList {S : List Addr} {H : Hp} {Q : VK} {x : V} {d : PyData} (i : Im S H x d) (h : Q (.bl (isListD d)) H) : rIsD [x, .ty "list"] H Q := s_isD i (by decide) (by rw [isT_list]; exact h)
def isTupD : PyData → Bool
  | .tuple _ => true
  | _ => false
theorem isT_tuple (d : PyData) : isT d "tuple" = isTupD d := by
  cases d <;> first | exact (by decide +kernel : subT "NoneType" "tuple" = false) | exact (by decide +kernel : subT "bool" "tuple" = false) | exact (by decide +kernel : subT "int" "tuple" = false) | exact (by decide +kernel : subT "str" "tuple" = false) | exact (by decide +kernel : subT "list" "tuple" = false) | exact (by decide +kernel : subT "tuple" "tuple" = true) | exact (by decide +kernel : subT "dict" "tuple" = false)
theorem s_isTup {S : List Addr} {H : Hp} {Q : VK} {x : V} {d : PyData} (i : Im S H x d) (h : Q (.bl (isTupD d)) H) : rIsD [x, .ty "tuple"] H Q := s_isD i (by decide) (by rw [isT_tuple]; exact h)
def isStrD : PyData → Bool
  | .str _ => true
  | _ => false
theorem isT_str (d : PyData) : isT d "str" = isStrD d := by
  cases d <;> first | exact (by decide +kernel : subT "NoneType" "str" = false) | exact (by decide +kernel : subT "bool" "str" = false) | exact (by decide +kernel : subT "int" "str" = false) | exact (by decide +kernel : subT "str" "str" = true) | exact (by decide +kernel : subT "list" "str" = false) | exact (by decide +kernel : subT "tuple" "str" = false) | exact (by decide +kernel : subT "dict" "str" = false)
theorem s_isStr {S : List Addr} {H : Hp} {Q : VK} {x : V} {d : PyData} (i : Im S H x d) (h : Q (.bl (isStrD d)) H) : rIsD [x, .ty "str"] H Q := s_isD i (by decide) (by rw [isT_str]; exact h)
def isIntD : PyData → Bool
  | .int _ => true
  | .bool _ => true
  | _ => false
theorem isT_int (d : PyData) : isT d "int" = isIntD d := by
  cases d <;> first | exact (by decide +kernel : subT "NoneType" "int" = false) | exact (by decide +kernel : subT "bool" "int" = true) | exact (by decide +kernel : subT "int" "int" = true) | exact (by decide +kernel : subT "str" "int" = false) | exact (by decide +kernel : subT "list" "int" = false) | exact (by decide +kernel : subT "tuple" "int" = false) | exact (by decide +kernel : subT "dict" "int" = false)
theorem s_isInt {S : List Addr} {H : Hp} {Q : VK} {x : V} {d : PyData} (i : Im S H x d) (h : Q (.bl (isIntD d)) H) : rIsD [x, .ty "int"] H Q := s_isD i (by decide) (by rw [isT_int]; exact h)
def isBoolD : PyData → Bool
  | .bool _ => true
  | _ => false
theorem isT_bool (d : PyData) : isT d "bool" = isBoolD d := by
  cases d <;> first | exact (by decide +kernel : subT "NoneType" "bool" = false) | exact (by decide +kernel : subT "bool" "bool" = true) | exact (by decide +kernel : subT "int" "bool" = false) | exact (by decide +kernel : subT "str" "bool" = false) | exact (by decide +kernel : subT "list" "bool" = false) | exact (by decide +kernel : subT "tuple" "bool" = false) | exact (by decide +kernel : subT "dict" "bool" = false)
theorem s_isBool {S : List Addr} {H : Hp} {Q : VK} {x : V} {d : PyData} (i : Im S H x d) (h : Q (.bl (isBoolD d)) H) : rIsD [x, .ty "bool"] H Q := s_isD i (by decide) (by rw [isT_bool]; exact h)
/-- isinstance(x, (list, tuple)) and the like, the tuple just made -/
theorem s_isLT {S : List Addr} {H : Hp} {Q : VK} {x : V} {d : PyData} {p : Addr} (i : Im S H x d) (h : Q (.bl (isListD d || isTupD d)) (upd H p (.tup [.ty "list", .ty "tuple"]))) (n : H p = none) :
    rIsDT [x, .ref p] (upd H p (.tup [.ty "list", .ty "tuple"])) Q := ⟨x, p, ["list", "tuple"], S, d, rfl, upd_same, by decide, i.nx (.new n), by
  rw [List.any_cons, List.any_cons, List.any_nil, isT_list, isT_tuple, Bool.or_false]; exact h⟩
theorem s_isDLT {S : List Addr} {H : Hp} {Q : VK} {x : V} {d : PyData} {p : Addr} (i : Im S H x d) (h : Q (.bl (isDictD d || (isListD d || isTupD d))) (upd H p (.tup [.ty "dict", .ty "list", .ty "tuple"]))) (n : H p = none) :
    rIsDT [x, .ref p] (upd H p (.tup [.ty "dict", .ty "list", .ty "tuple"])) Q := ⟨x, p, ["dict", "list", "tuple"], S, d, rfl, upd_same, by decide, i.nx (.new n), by
  rw [List.any_cons, List.any_cons, List.any_cons, List.any_nil, isT_list, isT_tuple, isT_dict, Bool.or_false]; exact h⟩
theorem s_isTSBI {S : List Addr} {H : Hp} {Q : VK} {x : V} {d : PyData} {p : Addr} (i : Im S H x d) (h : Q (.bl (isTupD d || (isStrD d || (isBoolD d || isIntD d)))) (upd H p (.tup [.ty "tuple", .ty "str", .ty "bool", .ty "int"]))) (n : H p = none) :
    rIsDT [x, .ref p] (upd H p (.tup [.ty "tuple", .ty "str", .ty "bool", .ty "int"])) Q := ⟨x, p, ["tuple", "str", "bool", "int"], S, d, rfl, upd_same, by decide, i.nx (.new n), by
  rw [List.any_cons, List.any_cons, List.any_cons, List.any_cons, List.any_nil, isT_tuple, isT_str, isT_bool, isT_int, Bool.or_false]; exact h⟩
theorem s_isN {H : Hp} {Q : VK} {x : V} (h : Q (.bl (decide (x = .non))) H) : (fun (x y : V) (H : Hp) (Q : VK) => y = V.non ∧ Q (.bl (decide (x = .non))) H) x .non H Q := ⟨rfl, h⟩
end RG

/-! data told loosely: lists for tuples, tuples for lists, dicts in another order; dicts from pairs -/
namespace RG
open PySem PySem.Spec PyProof.Rows L2
mutual
inductive Lo : PyData → PyData → Prop
  | leaf {d : PyData} : isDictD d = false → isListD d = false → isTupD d = false → Lo d d
  | ll {ds es : List PyData} : LoAll ds es → Lo (.list ds) (.list es)
  | lt {ds es : List PyData} : LoAll ds es → Lo (.list ds) (.tuple es)
  | tl {ds es : List PyData} : LoAll ds es → Lo (.tuple ds) (.list es)
  | tt {ds es : List PyData} : LoAll ds es → Lo (.tuple ds) (.tuple es)
  | dct {ds ds1 es : List (PyData × PyData)} : ds1.Perm ds → LoKv ds1 es → Lo (.dict ds) (.dict es)
inductive LoAll : List PyData → List PyData → Prop
  | nil : LoAll [] []
  | cons {d e : PyData} {ds es : List PyData} : Lo d e → LoAll ds es → LoAll (d :: ds) (e :: es)
inductive LoKv : List (PyData × PyData) → List (PyData × PyData) → Prop
  | nil : LoKv [] []
  | cons {k d e : PyData} {ds es : List (PyData × PyData)} : Lo d e → LoKv ds es → LoKv ((k, d) :: ds) ((k, e) :: es)
end
theorem LoAll.snoc {d e : PyData} : ∀ {ds es : List PyData}, LoAll ds es → Lo d e → LoAll (ds ++ [d]) (es ++ [e])
  | _, _, .nil, h => .cons h .nil
  | _, _, .cons a t, h => .cons a (LoAll.snoc t h)
theorem LoKv.snoc {k d e : PyData} : ∀ {ds es : List (PyData × PyData)}, LoKv ds es → Lo d e → LoKv (ds ++ [(k, d)]) (es ++ [(k, e)])
  | _, _, .nil, h => .cons h .nil
  | _, _, .cons a t, h => .cons a (LoKv.snoc t h)
mutual
def wt : PyData → Nat
  | .none | .bool _ | .int _ | .str _ => 0
  | .list xs | .tuple xs => wtAll xs + 1
  | .dict kvs => wtKv kvs + kvs.length
def wtAll : List PyData → Nat
  | [] => 0
  | x :: xs => wt x + wtAll xs
def wtKv : List (PyData × PyData) → Nat
  | [] => 0
  | (_, v) :: r => wt v + wtKv r
end
theorem wtAll_app : ∀ (xs ys : List PyData), wtAll (xs ++ ys) = wtAll xs + wtAll ys
  | [], ys => by simp [wtAll]
  | x :: r, ys => by rw [List.cons_append, wtAll, wtAll, wtAll_app r ys]; omega
theorem wtKv_app : ∀ (xs ys : List (PyData × PyData)), wtKv (xs ++ ys) = wtKv xs + wtKv ys
  | [], ys => by simp [wtKv]
  | (k, x) :: r, ys => by rw [List.cons_append, wtKv, wtKv, wtKv_app r ys]; omega
theorem wtKv_perm {xs ys : List (PyData × PyData)} (h : xs.Perm ys) : wtKv xs = wtKv ys := by
  induction h with
  | nil => rfl
  | cons x _ ih => obtain ⟨k, v⟩ := x; rw [wtKv, wtKv, ih]
  | swap x y l => obtain ⟨k, v⟩ := x; obtain ⟨k2, v2⟩ := y; rw [wtKv, wtKv, wtKv, wtKv]; omega
  | trans _ _ a b => exact a.trans b
theorem wtAll_take {xs : List PyData} (i : Nat) : wtAll (xs.take i) ≤ wtAll xs := by
  have := wtAll_app (xs.take i) (xs.drop i)
  rw [List.take_append_drop] at this; omega
theorem wtKv_take {xs : List (PyData × PyData)} (i : Nat) : wtKv (xs.take i) ≤ wtKv xs := by
  have := wtKv_app (xs.take i) (xs.drop i)
  rw [List.take_append_drop] at this; omega
theorem depKv_mem : ∀ {xs : List (PyData × PyData)} {p : PyData × PyData}, p ∈ xs → dep p.2 ≤ depKv xs
  | (k, v) :: r, p, h => by
    rw [depKv]
    rcases List.mem_cons.mp h with e | h
    · rw [e]; exact Nat.le_trans (Nat.le_max_right _ _) (Nat.le_max_left _ _)
    · exact Nat.le_trans (depKv_mem h) (Nat.le_max_right _ _)
theorem smKv_mem : ∀ {xs : List (PyData × PyData)} {p : PyData × PyData}, smKv xs = true → p ∈ xs → sm p.1 = true ∧ sm p.2 = true
  | (k, v) :: r, p, hs, h => by
    rw [smKv, Bool.and_eq_true, Bool.and_eq_true] at hs
    rcases List.mem_cons.mp h with e | h
    · rw [e]; exact hs.1
    · exact smKv_mem hs.2 h
section
variable {X : Cx} {tg : Expr}
theorem PI.or {e : Expr} {wi wi' : TI} (a : PI X tg e wi) (b : PI X tg e wi') : PI X tg e (fun σ H R => wi σ H R ∨ wi' σ H R) := ⟨fun pins s σ H R I h => h.elim (a.run pins s σ H R I) (b.run pins s σ H R I)⟩
/-- a walk over a list or a tuple -/
def iSeq (K : PySem.W.Frag) (tl : TE) : TI := fun σ H R => iList K tl σ H R ∨ iTup K tl σ H R
theorem ki_seq (K : PySem.W.Frag) {l : Expr} {tl : TE} (hl : PE X l tl) (hK : X.K = K := by rfl) : PI X tg l (iSeq K tl) := PI.or (ki_list K hl hK) (ki_tup K hl hK)
theorem CallR.or {f : Value} {r r' : List V → Hp → VK → Prop} (a : CallR X f r) (b : CallR X f r') : CallR X f (fun xs H Q => r xs H Q ∨ r' xs H Q) := fun pins s σ H xs us Q I rv h => h.elim (a pins s σ H xs us Q I rv) (b pins s σ H xs us Q I rv)
/-- dict(a list of pairs) -/
def rDictP (K : PySem.W.Frag) : List V → Hp → VK → Prop := fun xs H Q => ∃ (a : Addr) (ps : List Addr) (kvs : List (Key × V)), xs = [.ref a] ∧ SqL K H a (ps.map V.ref) ∧ Paired (fun p kv => SqT K H p [kV kv.1, kv.2]) ps kvs ∧
  ∀ p, H p = none → Q (.ref p) (upd H p (.dK (mergeK [] kvs)))
theorem kdictP (K : PySem.W.Frag) (hc : X.calm = true := by rfl) (hK : X.K = K := by rfl) : CallR X (.type "dict") (rDictP K) := by subst hK; exact call_dictP hc
/-- dict(a dict) -/
def rDictD : List V → Hp → VK → Prop := fun xs H Q => ∃ (a : Addr) (kvs : List (Key × V)), xs = [.ref a] ∧ Rd H a (.dK kvs) ∧ ∀ p, H p = none → Q (.ref p) (upd H p (.dK kvs))
theorem kdictD : CallR X (.type "dict") rDictD := call_dictD
/-- list(a dict): its keys -/
def rListD : List V → Hp → VK → Prop := fun xs H Q => ∃ (a : Addr) (kvs : List (Key × V)), xs = [.ref a] ∧ Rd H a (.dK kvs) ∧ ∀ p, H p = none → Q (.ref p) (upd H p (.lst (kvs.map fun kv => kV kv.1)))
theorem klistD (hc : X.calm = true := by rfl) : CallR X (.type "list") rListD := call_listD hc
end
theorem merge_app : ∀ (more kvs : List (Key × V)), ((kvs ++ more).map (·.1)).Nodup → mergeK kvs more = kvs ++ more
  | [], kvs, _ => by simp [mergeK]
  | (k, v) :: r, kvs, h => by
    have hn : k ∉ kvs.map (·.1) := by
      rw [List.map_append, List.map_cons] at h
      intro hk
      exact (List.nodup_append.mp h).2.2 k hk k List.mem_cons_self rfl
    show mergeK (putK kvs k v) r = _
    rw [putK_new hn, merge_app r (kvs ++ [(k, v)]) (by rw [List.append_assoc]; exact h), List.append_assoc]
    rfl
theorem merge_nil {kvs : List (Key × V)} (h : (kvs.map (·.1)).Nodup) : mergeK [] kvs = kvs := by
  have := merge_app kvs [] (by simpa using h)
  simpa using this
/-- a key's value in a dict of unlike keys -/
theorem valV_of {κ : Type} [DecidableEq κ] : ∀ {kvs : List (κ × V)} {k : κ} {v : V}, (kvs.map (·.1)).Nodup → (k, v) ∈ kvs → valV kvs k = some v
  | (k1, v1) :: r, k, v, nd, h => by
    rcases List.mem_cons.mp h with e | h
    · cases e; exact valV_pos rfl
    · rw [List.map_cons, List.nodup_cons] at nd
      have hne : ¬ k1 = k := fun e => nd.1 (by rw [e]; exact List.mem_map.mpr ⟨_, h, rfl⟩)
      rw [valV_neg (p := (k1, v1)) hne]
      exact valV_of nd.2 h
theorem ImKv.get : ∀ {S : List Addr} {H : Hp} {kvs : List (Key × V)} {ds : List (PyData × PyData)}, ImKv S H kvs ds → ∀ {i : Nat} {kv : Key × V}, kvs[i]? = some kv → ∃ d, ds[i]? = some (kD kv.1, d) ∧ Im S H kv.2 d
  | _, _, _, _, .nil, i, kv, e => by simp at e
  | _, _, _, _, .cons a t, 0, kv, e => by simp at e; subst e; exact ⟨_, rfl, a⟩
  | _, _, _, _, .cons a t, i + 1, kv, e => by
    simp at e
    obtain ⟨d, h1, h2⟩ := ImKv.get t e
    exact ⟨d, by simpa using h1, h2⟩
/-- a dict's values in another order -/
theorem ImKv.perm {S : List Addr} {H : Hp} {kvs kvs2 : List (Key × V)} (p : kvs2.Perm kvs) : ∀ {ds : List (PyData × PyData)}, ImKv S H kvs ds → ∃ ds2, ds2.Perm ds ∧ ImKv S H kvs2 ds2 := by
  induction p with
  | nil => intro ds h; exact ⟨ds, .refl _, h⟩
  | cons x _ ih =>
    intro ds h
    cases h with
    | cons a t =>
      obtain ⟨e, p1, q⟩ := ih t
      exact ⟨_, p1.cons _, .cons a q⟩
  | swap x y l =>
    intro ds h
    cases h with
    | cons a t =>
      cases t with
      | cons b t => exact ⟨_, .swap _ _ _, .cons b (.cons a t)⟩
  | trans _ _ ih1 ih2 =>
    intro ds h
    obtain ⟨e, p1, q⟩ := ih2 h
    obtain ⟨e2, p2, q2⟩ := ih1 q
    exact ⟨e2, p2.trans p1, q2⟩
theorem permMap {α β : Type} {f : α → β} {l ys : List β} (h : ys.Perm l) : ∀ {xs : List α}, l = xs.map f → ∃ zs : List α, zs.Perm xs ∧ zs.map f = ys := by
  induction h with
  | nil => intro xs e; exact ⟨xs, .refl _, e.symm⟩
  | cons x _ ih =>
    intro xs e
    cases xs with
    | nil => cases e
    | cons a r =>
      rw [List.map_cons] at e
      injection e with e1 e2
      obtain ⟨zs, h1, h2⟩ := ih e2
      exact ⟨a :: zs, h1.cons a, by rw [List.map_cons, h2, e1]⟩
  | swap x y l =>
    intro xs e
    cases xs with
    | nil => cases e
    | cons a r =>
      rw [List.map_cons] at e
      injection e with e1 e2
      cases r with
      | nil => cases e2
      | cons b r =>
        rw [List.map_cons] at e2
        injection e2 with e3 e4
        exact ⟨b :: a :: r, .swap _ _ _, by rw [List.map_cons, List.map_cons, e1, e3, e4]⟩
  | trans _ _ ih1 ih2 =>
    intro xs e
    obtain ⟨zs, h1, h2⟩ := ih2 e
    obtain ⟨ws, h3, h4⟩ := ih1 h2.symm
    exact ⟨ws, h3.trans h1, h4⟩
/-- a list that is some keys' values in another order is such a list of keys -/
theorem perm_of_map {α β : Type} {f : α → β} {xs : List α} {ys : List β} (h : ys.Perm (xs.map f)) : ∃ zs : List α, zs.Perm xs ∧ ys = zs.map f := by
  obtain ⟨zs, h1, h2⟩ := permMap h rfl
  exact ⟨zs, h1, h2.symm⟩
theorem runs_tup {K : PySem.W.Frag} {a : Addr} {xs : List V} : Runs (Itt K a) xs.length (fun H => SqT K H a xs) (fun i H x H' => H' = H ∧ xs[i]? = some x) :=
  ⟨fun i H h hi => ⟨xs, xs[i], h, List.getElem?_eq_getElem hi⟩, fun i H h hi => ⟨xs, h, hi⟩, fun i H x H' h hi ⟨e, y⟩ => ⟨e, y xs h⟩⟩
/-- a walk over data that is a list or a tuple -/
theorem s_iseq {K : PySem.W.Frag} {S : List Addr} {H : Hp} {v : V} {d : PyData} {te : TE} {σ : L2.St} {R : It → Hp → Prop} (hv : Im S H v d) (hL : (isListD d || isTupD d) = true) (ht : ∀ Q : VK, Q v H → te σ H Q)
    (h : ∀ (J : It) (xs : List V) (ds : List PyData) (G : Hp → Prop), (d = .list ds ∨ d = .tuple ds) → ImAll S H xs ds → Runs J xs.length G (fun i H x H' => H' = H ∧ xs[i]? = some x) → (∀ H', Rx S H H' → G H') → R J H) : iSeq K te σ H R := by
  cases hv with
  | @lst a xs ds na ra ia => exact .inl (ht _ ⟨a, rfl, ⟨xs, .inl ra⟩, h _ xs ds _ (.inl rfl) ia runs_list fun H' g => .inl (g a _ na .l ra)⟩)
  | @tup a xs ds na ra ia => exact .inr (ht _ ⟨a, rfl, ⟨xs, .inl ra⟩, h _ xs ds _ (.inr rfl) ia runs_tup fun H' g => .inl (g a _ na .t ra)⟩)
  | _ => cases hL
theorem LoAll.take_snoc {ds es : List PyData} {i : Nat} {d e : PyData} (h : LoAll (ds.take i) es) (hd : ds[i]? = some d) (he : Lo d e) : LoAll (ds.take (i + 1)) (es ++ [e]) := by
  rw [List.take_add_one, hd]; exact h.snoc he
theorem LoKv.take_snoc {ds es : List (PyData × PyData)} {i : Nat} {k d e : PyData} (h : LoKv (ds.take i) es) (hd : ds[i]? = some (k, d)) (he : Lo d e) : LoKv (ds.take (i + 1)) (es ++ [(k, e)]) := by
  rw [List.take_add_one, hd]; exact h.snoc he
theorem wtAll_succ {ds : List PyData} {i : Nat} {d : PyData} (hd : ds[i]? = some d) : wtAll (ds.take (i + 1)) = wtAll (ds.take i) + wt d := by
  rw [List.take_add_one, hd, wtAll_app]; rfl
theorem wtKv_succ {ds : List (PyData × PyData)} {i : Nat} {k d : PyData} (hd : ds[i]? = some (k, d)) : wtKv (ds.take (i + 1)) = wtKv (ds.take i) + wt d := by
  rw [List.take_add_one, hd, wtKv_app]; rfl
theorem LoKv.keys : ∀ {ds es : List (PyData × PyData)}, LoKv ds es → es.map (·.1) = ds.map (·.1)
  | _, _, .nil => rfl
  | _, _, .cons _ t => by rw [List.map_cons, List.map_cons, LoKv.keys t]
theorem ImKv.kD {S : List Addr} {H : Hp} : ∀ {kvs : List (Key × V)} {ds : List (PyData × PyData)}, ImKv S H kvs ds → ∀ p ∈ ds, ∃ k, p.1 = RG.kD k
  | _, _, .nil, p, hp => by simp at hp
  | _, _, .cons _ t, p, hp => by
    rcases List.mem_cons.mp hp with e | hp
    · rw [e]; exact ⟨_, rfl⟩
    · exact ImKv.kD t p hp
section
variable {X : Cx}
/-- isinstance(x, T), the class known -/
def rIsY (K : PySem.W.Frag) : List V → Hp → VK → Prop := fun xs H Q => ∃ (x : V) (t T : String), xs = [x, .ty T] ∧ t ∈ seven ∧ T ∈ six ∧ TyX K H x (.type t) ∧ Q (.bl (subT t T)) H
theorem kisY (K : PySem.W.Frag) (hK : X.K = K := by rfl) : CallR X (.builtin "isinstance") (rIsY K) := by
  subst hK
  intro pins s σ H xs us Q I r h
  obtain ⟨x, t, T, rfl, ht, hT, i, q⟩ := h
  exact call_isi pins s σ H _ us Q I r ⟨x, .ty T, _, _, _, rfl, .ty T, i, kit_ty (kit_all _ ht T hT), q⟩
end
theorem upd_back {H : Hp} {a : Addr} {o u : HO} (e : H a = some u) : upd (upd H a o) a u = H := by
  rw [upd_upd]
  funext b
  by_cases h : b = a
  · subst h; rw [upd_same, e]
  · rw [upd_ne h]
theorem dropK_snoc {κ : Type} [DecidableEq κ] {kvs : List (κ × V)} {k : κ} {v : V} (h : k ∉ kvs.map (·.1)) : dropK (kvs ++ [(k, v)]) k = kvs := by
  unfold dropK
  rw [List.filter_append, List.filter_eq_self.mpr]
  · simp
  · intro p hp
    have : p.1 ≠ k := fun e => h (by rw [← e]; exact List.mem_map_of_mem hp)
    simpa using this
theorem valV_snoc {κ : Type} [DecidableEq κ] {v : V} : ∀ {kvs : List (κ × V)} {k : κ}, k ∉ kvs.map (·.1) → valV (kvs ++ [(k, v)]) k = some v
  | [], k, _ => valV_pos rfl
  | p :: r, k, h => by
    rw [List.cons_append, valV_neg (fun e => h (by rw [← e]; exact List.mem_cons_self))]
    exact valV_snoc (fun z => h (List.mem_cons_of_mem _ z))
/-- older data after a new object at D, whatever was done at D and S since -/
theorem Im.over {S : List Addr} {H H' : Hp} {D : Addr} {v : V} {d : PyData} (n : H D = none) (g : Nx (D :: S) H H') (h : Im S H v d) : Im (D :: S) H' v d :=
  Im.nx g (Im.sub (fun a ha => (List.mem_cons.mp ha).elim (fun z => .inr (by rw [z]; exact n)) .inl) d h)
theorem Im.key_inv {S : List Addr} {H : Hp} {v : V} : ∀ {k : Key}, Im S H v (kD k) → v = kV k
  | .inl i, h => by cases h; rfl
  | .inr x, h => by cases h; rfl
theorem ImKv.apart {S : List Addr} {H : Hp} {p : Addr} {o : HO} (n : H p = none) {d : List (PyData × PyData)} {v : List (Key × V)} (h : ImKv S H v d) : ImKv (p :: S) (upd H p o) v d :=
  ImKv.rx (Nx.rx (.new n)) d (ImKv.sub (fun a ha => (List.mem_cons.mp ha).elim (fun z => .inr (by rw [z]; exact n)) .inl) d h)
theorem ImAll.snoc {S : List Addr} {H : Hp} {v : V} {d : PyData} {vs : List V} {ds : List PyData} (h : ImAll S H vs ds) (a : Im S H v d) : ImAll S H (vs ++ [v]) (ds ++ [d]) := h.append (.cons a .nil)
/-- a list of pairs, as keys and values -/
theorem ImAll.pairs_inv {S : List Addr} {H : Hp} : ∀ {ds : List (PyData × PyData)} {vs : List V}, ImAll S H vs (ds.map fun p => .tuple [p.1, p.2]) → (∀ p ∈ ds, ∃ k, p.1 = kD k) →
    ∃ (ps : List Addr) (kvs : List (Key × V)), vs = ps.map V.ref ∧ Paired (fun p kv => Rd H p (.tup [kV kv.1, kv.2])) ps kvs ∧ ImKv S H kvs ds
  | [], _, .nil, _ => ⟨[], [], rfl, .nil, .nil⟩
  | (a, b) :: r, _, .cons h t, hk => by
    obtain ⟨ps, kvs, e, pr, ik⟩ := ImAll.pairs_inv t (fun p hp => hk p (List.mem_cons_of_mem _ hp))
    obtain ⟨k, ek⟩ := hk (a, b) List.mem_cons_self
    dsimp only at ek
    subst ek
    cases h with
    | @tup p xs ds n rd al =>
      cases al with
      | cons h1 t1 =>
        cases t1 with
        | @cons v _ _ _ h2 t2 =>
          cases t2
          have e1 : _ = kV k := Im.key_inv h1
          subst e1
          exact ⟨p :: ps, (k, v) :: kvs, by rw [e]; rfl, .cons rd pr, .cons h2 ik⟩
theorem s_dictP {S : List Addr} {H : Hp} {Q : VK} {K : PySem.W.Frag} {a : Addr} {vs : List V} {ds : List (PyData × PyData)} (ra : Rd H a (.lst vs)) (im : ImAll S H vs (ds.map fun p => .tuple [p.1, p.2])) (hk : ∀ p ∈ ds, ∃ k, p.1 = kD k) (hn : (ds.map (·.1)).Nodup) (al : Al S H)
    (h : ∀ p H' kvs, H p = none → p ∉ S → Nx [] H H' → H' p = some (.dK kvs) → (kvs.map (·.1)).Nodup → ImKv (p :: S) H' kvs ds → Q (.ref p) H') : rDictP K [.ref a] H Q := by
  obtain ⟨ps, kvs, e, pr, ik⟩ := im.pairs_inv hk
  have nd : (kvs.map (·.1)).Nodup := by
    have e2 := ik.keys
    rw [e2] at hn
    rw [show (kvs.map fun kv => kD kv.1) = (kvs.map (·.1)).map kD by rw [List.map_map]; rfl] at hn
    exact List.Pairwise.of_map kD (fun a b hne e => hne (congrArg kD e)) hn
  refine ⟨a, ps, kvs, rfl, .inl (by rw [← e]; exact ra), L2.Paired.mapP pr fun p kv r => .inl r, fun p np => ?_⟩
  rw [merge_nil nd]
  exact h p _ kvs np (al.ne np) (.new np) upd_same nd (ik.apart np)
section
variable {σ : L2.St} {H : Hp} {Q : VK} {K : PySem.W.Frag}
theorem s_lockE {t : TE} (h : tLockU t σ H Q) : tLockU t σ H Q := h
end
end RG

/-! what the program asks of data -/
namespace RG
open PySem PySem.Spec PyProof.Rows L2
def isIntB : PyData → Bool
  | .int _ => true
  | _ => false
def betB (d : PyData) (lo hi : Int) : Bool := match d with
  | .int i => decide (lo ≤ i) && decide (i ≤ hi)
  | _ => false
def nmB (x : Str) : Bool := decide (1 ≤ x.length) && decide (x.length ≤ 8) && ((x.cps.toList[0]?).any fun c => decide (c ∈ letC)) && x.cps.toList.all fun c => decide (c ∈ sigC)
def nameB : PyData → Bool
  | .str x => nmB x
  | _ => false
def arcL (h : Int) : List PyData → Bool
  | [a, b] => betB a 0 (h - 1) && betB b 1 h
  | _ => false
def arcB (h : Int) : PyData → Bool
  | .list ds => arcL h ds
  | .tuple ds => arcL h ds
  | _ => false
theorem arcL_len {h : Int} : ∀ {ds : List PyData}, ¬ ds.length = 2 → arcL h ds = false
  | [], _ => rfl
  | [_], _ => rfl
  | [_, _], n => absurd rfl n
  | _ :: _ :: _ :: _, _ => rfl
theorem arcB_of {h : Int} {d : PyData} {ds : List PyData} (e : d = .list ds ∨ d = .tuple ds) : arcB h d = arcL h ds := by rcases e with e | e <;> rw [e] <;> rfl
def arcsB (h : Int) : PyData → Bool
  | .dict ds => decide (ds.length ≤ 40) && ds.all fun p => nameB p.1 && arcB h p.2
  | _ => false
theorem nmB_ok {x : Str} (h : NameOk x) : nmB x = true := by
  obtain ⟨c, e, hc⟩ := h.first
  unfold nmB
  rw [e, decide_eq_true h.lo, decide_eq_true h.hi, Option.any_some, decide_eq_true hc, List.all_eq_true.mpr fun c hc => decide_eq_true (h.all c hc)]
  rfl
section
variable {X : Cx} {pos : Pos} {σ : L2.St} {H : Hp} {Q : VK} {v x y : V} {ta tb tc te : TE} {K : PySem.W.Frag}
theorem PG.or {e : Expr} {g g' : TG} (a : PG X e g) (b : PG X e g') : PG X e (fun v σ H Q => g v σ H Q ∨ g' v σ H Q) := ⟨fun pins s σ H v u Q I r h => h.elim (a.run pins s σ H v u Q I r) (b.run pins s σ H v u Q I r)⟩
/-- a, b = a list or a tuple -/
def gSeqN (K : PySem.W.Frag) (n : Nat) (t : TGs) : TG := fun v σ H Q => gTup K n t v σ H Q ∨ gLst K n t v σ H Q
theorem kgseq (K : PySem.W.Frag) {es : List Expr} {k : Nat} {t : TGs} {n : Nat} {pos : Pos} (hc : X.calm = true) (h : PGs X es t) (hn : (assignEach es X.env).length = n := by rfl) (hst : (assignEach es X.env).findIdx? (·.1) = none := by rfl)
    (hK : X.K = K := by rfl) : PG X (.Tuple es k pos) (gSeqN K n t) := by
  subst hK; exact PG.or (pg_tup hc h hn hst) (pg_lst hc h hn hst)
theorem s_gseq {a : Addr} {xs : List V} {n : Nat} {t : TGs} {R : L2.St → Hp → Prop} (h : SqL K H a xs ∨ SqT K H a xs) (hn : xs.length = n) (q : t xs σ H R) : gSeqN K n t (.ref a) σ H R :=
  h.elim (fun h => .inr ⟨a, xs, rfl, h, hn, q⟩) (fun h => .inl ⟨a, xs, rfl, h, hn, q⟩)
theorem s_chain {r r' : R2} (h : ta σ H fun x H1 => tb σ H1 fun y H2 => r x y H2 fun z H3 => ∃ k, z = .bl k ∧ (if k = true then tc σ H3 fun w' H4 => r' y w' H4 Q else Q (.bl false) H3)) : tChain r r' ta tb tc σ H Q := h
/-- len of a list or a tuple -/
theorem len_seq {p : Addr} {xs : List V} (h : SqL K H p xs ∨ SqT K H p xs) : LenV K (.ref p) H xs.length := h.elim len_l fun h => .inr ⟨xs, h, rfl⟩
end
theorem ite_nb {b : Bool} {A B : Prop} (h1 : b = false → A) (h2 : b = true → B) : if (!b) = true then A else B := by
  cases b with
  | true => exact ite_f rfl (h2 rfl)
  | false => exact ite_t rfl (h1 rfl)
/-- a list's or tuple's items -/
theorem Im.seq {K : PySem.W.Frag} {S : List Addr} {H : Hp} {v : V} {d : PyData} (hv : Im S H v d) (hL : (isListD d || isTupD d) = true) : ∃ a xs ds, v = .ref a ∧ (SqL K H a xs ∨ SqT K H a xs) ∧ a ∉ S ∧ ImAll S H xs ds ∧ (d = .list ds ∨ d = .tuple ds) := by
  cases hv with
  | @lst a xs ds na ra ia => exact ⟨a, xs, ds, rfl, .inl (.inl ra), na, ia, .inl rfl⟩
  | @tup a xs ds na ra ia => exact ⟨a, xs, ds, rfl, .inr (.inl ra), na, ia, .inr rfl⟩
  | _ => cases hL
end RG

/-! own methods: called by name, by len(), by in -/
namespace RG
open PySem PySem.Spec PyProof.Rows L2
/-- a method m of the class at C that keeps the promise sp, at level k -/
structure Mt (P : Program) (w : World) (K : PySem.W.Frag) (mg : Str → Option Value) (base : Heap) (C : Addr) (k : Nat) (m : Str) (ps : List Str) (sp : Sp) : Prop where
  ex : ∃ (f : Addr) (fd : FuncData), Cls K C ∧ Meth K C m f ∧ FnOk P w K mg base CX0 k f fd ps sp ∧ Binds K fd ps []
section
variable {X : Cx} {k j : Nat} {C : Addr} {x m : Str} {ps : List Str} {sp : Sp} {p pos apos : Pos} {e o : Expr} {es : List Expr} {ta : TE} {t : TA}
theorem pe_mm {pl : Sem Bool} (c : Mt X.prog X.w X.K X.mg X.base C j m ps sp) (hr : Room k X.A) (he : PE X o ta) (ha : PA X (e :: es) t) (hj : j ≤ k := by first | decide | omega)
    (hst : starEach (e :: es) X.env = (false, eval e X.env) :: starEach es X.env := by rfl) (hpl : (backTo pos (starEach es X.env)).any (·.1) = false := by rfl)
    (ht : eval (.Call (.Attribute o m apos) (e :: es) [] pos) X.env = (do
      let ov ← eval o X.env
      standAt apos.atName
      let (f, first) ← holding [ov] (getMethod ov m pl)
      callWith pos f first (backTo pos (starEach (e :: es) X.env)) (backToKw pos (keywordEach [] X.env))) := by rfl) :
    PE X (.Call (.Attribute o m apos) (e :: es) [] pos) (tMeth C m sp [] E0 ta t) := by
  obtain ⟨f, fd, hc, hm, F, b⟩ := c.ex
  exact pe_meth (pl := pl) he hc hm F (hr.mono hj) b .nil pass0 ha hst hpl ht
theorem pe_mm0 {pl : Sem Bool} (c : Mt X.prog X.w X.K X.mg X.base C j m ps sp) (hr : Room k X.A) (he : PE X o ta) (hj : j ≤ k := by first | decide | omega)
    (ht : eval (.Call (.Attribute o m apos) [] [] pos) X.env = (do
      let ov ← eval o X.env
      standAt apos.atName
      let (f, first) ← holding [ov] (getMethod ov m pl)
      callWith pos f first (backTo pos (starEach [] X.env)) (backToKw pos (keywordEach [] X.env))) := by rfl) :
    PE X (.Call (.Attribute o m apos) [] [] pos) (tMeth C m sp [] E0 ta tNil) := by
  obtain ⟨f, fd, hc, hm, F, b⟩ := c.ex
  exact pe_meth0 (pl := pl) he hc hm F (hr.mono hj) b .nil pass0 ht
theorem s_meth {σ : L2.St} {H : Hp} {Q : VK} {a dx : Addr} {fs : List (Str × V)} {v : V} (hv : v = .ref a) (e : H a = some (.ins C dx fs)) (l : fs.lookup m = none) (h : t σ H fun vs H2 => sp (.ref a :: (vs ++ [])) H2 Q E0) (ht : ∀ Q' : VK, Q' v H → ta σ H Q') : tMeth C m sp [] E0 ta t σ H Q :=
  ht _ ⟨a, dx, fs, hv, e, l, by rw [hv]; exact h⟩
/-- the callee's answer, below the running body -/
theorem own_call {pins : List (Addr × Obj)} {σ : L2.St} {H : Hp} {s : Shared} {A : Around} {f : Addr} {fd : FuncData} {us : List Value} {vs : List V} {Q : VK} {Q' : Value → Shared → Prop} (I : Inv X pins σ H s) (hA : A.frames = X.A.frames) (F : FnOk X.prog X.w X.K X.mg X.base CX0 k f fd ps sp) (hr : Room k A)
    (b : Binds X.K fd ps []) (r : Vals vs us) (h : sp vs H Q E0) (hq : ∀ u v s' H', Inv X pins σ H' s' → RelV v u → Q v H' → Q' u s') : wpAny (model X.prog X.w) A (call (.ref f) us) Q' X.xe s := by
  have hl : us.length = ps.length := by rw [← r.length]; exact F.len _ _ _ _ h
  have b1 := b s us I.kIn (by rw [List.append_nil]; exact hl)
  rw [List.append_nil] at b1
  have e0 : Env0 X.prog X.w X.K X.mg X.base A X.stack s H := by
    have e := I.env0
    exact ⟨by rw [hA]; exact e.frames, e.mod, e.bs, e.bsz, e.funs, e.frf, e.hok, e.bare⟩
  refine wpAny_call (codeAny_mono (F.run A X.stack s H ⟨us, []⟩ us vs Q E0 hr e0 b1 r h) fun r s' z => ?_)
  cases r with
  | error er => exact False.elim z
  | ok fl =>
    cases fl with
    | ret w =>
      obtain ⟨v, H', I', rv, q⟩ := I.after z
      exact hq _ _ _ _ I' rv q
    | next => exact False.elim z
    | brk => exact False.elim z
    | cont => exact False.elim z
/-- len(x), x an instance with its own __len__ -/
def rOwnLen (C : Addr) (sp : Sp) : List V → Hp → VK → Prop := fun xs H Q => ∃ (a dx : Addr) (fs : List (Str × V)), xs = [.ref a] ∧ H a = some (.ins C dx fs) ∧ sp [.ref a] H (fun v H' => ∃ n : Int, v = .int n ∧ (0 ≤ n ∧ n < 2 ^ 63) ∧ Q (.int n) H') E0
theorem call_ownLen (c : Mt X.prog X.w X.K X.mg X.base C j "__len__" ps sp) (hr : Room k X.A) (hj : j + 1 ≤ k := by first | decide | omega) : CallR X (.builtin "len") (rOwnLen C sp) := by
  intro pins s σ H xs us Q I r h
  obtain ⟨f, fd, hc, hm, F, b⟩ := c.ex
  obtain ⟨a, dx, fs, rfl, e, h⟩ := h
  obtain ⟨u, rfl, ru⟩ := vals1 r
  obtain rfl : u = Value.ref a := ru
  obtain ⟨mA, J, _⟩ := ins_get I.hok e
  obtain ⟨od, J, _⟩ := J.look
  obtain ⟨m, hF⟩ := I.fr
  refine PySem.W.len_K hF I.ok.mod.kin J hm.at_ hm.fn ?_
  refine own_call I (A := X.A.in1) rfl F ((hr.mono hj).in1) b r h fun u v s' H' I' rv ⟨n, ev, hn, q⟩ => ?_
  subst ev
  obtain ⟨t, rfl⟩ := rv
  exact ⟨hn, .int n, H', I'.tok _, ⟨_, rfl⟩, q⟩
/-- y in x, x an instance with its own __contains__ -/
def rOwnIn (neg : Bool) (C : Addr) (sp : Sp) : R2 := fun y x H Q => ∃ (a dx : Addr) (fs : List (Str × V)), x = .ref a ∧ H a = some (.ins C dx fs) ∧ sp [.ref a, y] H (fun v H' => ∃ b : Bool, v = .bl b ∧ Q (.bl (b != neg)) H') E0
theorem op_ownIn (c : Mt X.prog X.w X.K X.mg X.base C j "__contains__" ps sp) (hr : Room k X.A) (hj : j ≤ k := by first | decide | omega) : OpR X (compareOp .In) (rOwnIn false C sp) := by
  intro pins s σ H y x iv u Q I ry rx h
  obtain ⟨f, fd, hc, hm, F, b⟩ := c.ex
  obtain ⟨a, dx, fs, rfl, e, h⟩ := h
  obtain rfl : u = Value.ref a := rx
  obtain ⟨mA, J, _⟩ := ins_get I.hok e
  obtain ⟨od, J, _⟩ := J.look
  obtain ⟨m, hF⟩ := I.fr
  refine PySem.W.in_K hF I.ok.mod.kin J hm.at_ hm.fn ?_
  refine own_call I (A := X.A) rfl F (hr.mono hj) b (vs := [.ref a, y]) (.cons rfl (.cons ry .nil)) h fun u v s' H' I' rv ⟨bb, ev, q⟩ => ?_
  subst ev
  cases rv
  refine wpAny_truthy_bool ⟨.bl bb, H', I', rfl, ?_⟩
  rw [Bool.bne_false] at q
  exact q
theorem op_ownNotIn (c : Mt X.prog X.w X.K X.mg X.base C j "__contains__" ps sp) (hr : Room k X.A) (hj : j ≤ k := by first | decide | omega) : OpR X (compareOp .NotIn) (rOwnIn true C sp) := by
  intro pins s σ H y x iv u Q I ry rx h
  obtain ⟨f, fd, hc, hm, F, b⟩ := c.ex
  obtain ⟨a, dx, fs, rfl, e, h⟩ := h
  obtain rfl : u = Value.ref a := rx
  obtain ⟨mA, J, _⟩ := ins_get I.hok e
  obtain ⟨od, J, _⟩ := J.look
  obtain ⟨m, hF⟩ := I.fr
  refine PySem.W.notIn_K hF I.ok.mod.kin J hm.at_ hm.fn ?_
  refine own_call I (A := X.A) rfl F (hr.mono hj) b (vs := [.ref a, y]) (.cons rfl (.cons ry .nil)) h fun u v s' H' I' rv ⟨bb, ev, q⟩ => ?_
  subst ev
  cases rv
  refine wpAny_truthy_bool ⟨.bl (!bb), H', I', rfl, ?_⟩
  rw [Bool.bne_true] at q
  exact q
end
end RG

/-! a ring: an instance with its hours and a dict of its arcs -/
namespace RG
open PySem PySem.Spec PyProof.Rows L2
structure RingC (K : PySem.W.Frag) (mg : Str → Option Value) (C : Addr) : Prop where
  cls : Cls K C
  nh : NoAttr K C "own_hours"
  na : NoAttr K C "own_arcs"
section
variable {X : Cx} {o e value : Expr} {f : Str} {pos pos' : Pos} {ta tv te : TE} {σ : L2.St} {H : Hp} {Q : VK} {K : PySem.W.Frag} {v : V}
theorem kfld (K : PySem.W.Frag) (he : PE X e ta) (hb : attributeBase e f X.env (eval e X.env) = eval e X.env) (hK : X.K = K := by rfl) : PE X (.Attribute e f pos) (tFld K ta f) := by subst hK; exact pe_fld he hb
theorem kps_fld (K : PySem.W.Frag) (ha : PE X o ta) (hv : PE X value tv) (hs : swapsWith value (some (.Attribute o f pos')) pos.line X.env = pure false) (hK : X.K = K := by rfl) : PS X (.Assign [.Attribute o f pos'] value pos) (sFld K ta tv f) := by subst hK; exact ps_fld ha hv hs
theorem s_fld (h : ta σ H fun x H1 => ∃ a C dx fs v, x = .ref a ∧ H1 a = some (.ins C dx fs) ∧ Cls K C ∧ NoAttr K C f ∧ fs.lookup f = some v ∧ Q v H1) : tFld K ta f σ H Q := h
theorem s_sfld {D : Ends} (h : tv σ H fun y H1 => ta σ H1 fun x H2 => ∃ a C dx fs, x = .ref a ∧ H2 a = some (.ins C dx fs) ∧ Cls K C ∧ NoAttr K C f ∧ fs.length < 1000 ∧ D.nx σ (upd H2 a (.ins C dx (putF f y fs)))) : sFld K ta tv f D σ H := h
theorem s_methE {C : Addr} {m : Str} {sp : Sp} {t : TA} (h : ta σ H fun x H1 => ∃ a dx fs, x = .ref a ∧ H1 a = some (.ins C dx fs) ∧ fs.lookup m = none ∧ t σ H1 fun vs H2 => sp (x :: (vs ++ [])) H2 Q E0) : tMeth C m sp [] E0 ta t σ H Q := h
theorem s_make {C : Addr} {sp : Sp} {t : TA} (h : t σ H fun vs H1 => ∀ x dx, H1 x = none → H1 dx = none → dx ≠ x → sp (.ref x :: (vs ++ [])) (upd (upd H1 dx (.own x)) x (.ins C dx [])) (fun v H2 => v = .non ∧ Q (.ref x) H2) E0) : tMake C sp [] E0 t σ H Q := h
theorem s_dc {wi : TI} {g : TG} {tt : TT} {tk tv : TE} {vs : List Nat} (h : wi σ H fun J H1 => ∀ D, H1 D = none → ∃ W : Nat → Nat → Hp → Prop, (∃ m, W 0 m (upd H1 D (.dK []))) ∧ ∀ i m H, W i m H →
  (J.stop i H ∧ Q (.ref D) H) ∨ (J.go i H ∧ ∃ Nx : Hp → Prop, (∀ H', Nx H' → ∃ m', m' < m ∧ W (i + 1) m' H') ∧ ∀ x H', J.yld i H x H' → g x (wipe σ vs) H' fun σ2 H2 => wipe σ2 vs = wipe σ vs ∧ tt σ2 H2 fun b H3 =>
    if b = true then tk σ2 H3 fun y H4 => tv σ2 H4 fun z H5 => ∃ kvs k, y = kV k ∧ H5 D = some (.dK kvs) ∧ kvs.length < sizeLine ∧ Nx (upd H5 D (.dK (putK kvs k z))) else Nx H3)) : tDc wi g tt tk tv vs σ H Q := h
end
theorem dc_runs {J : It} {n : Nat} {G : Hp → Prop} {Y : Nat → Hp → V → Hp → Prop} {g : TG} {tt : TT} {tk tv : TE} {vs : List Nat} {σ : L2.St} {H1 : Hp} {D : Addr} {Qd : Hp → Prop} (r : Runs J n G Y) (Pv : Nat → Hp → Prop) (h0 : Pv 0 (upd H1 D (.dK []))) (hG : ∀ i H, Pv i H → G H)
    (hs : ∀ i H x H', i < n → Pv i H → Y i H x H' → g x (wipe σ vs) H' fun σ2 H2 => wipe σ2 vs = wipe σ vs ∧ tt σ2 H2 fun b H3 =>
      if b = true then tk σ2 H3 fun y H4 => tv σ2 H4 fun z H5 => ∃ kvs k, y = kV k ∧ H5 D = some (.dK kvs) ∧ kvs.length < sizeLine ∧ Pv (i + 1) (upd H5 D (.dK (putK kvs k z))) else Pv (i + 1) H3) (hd : ∀ H, Pv n H → Qd H) :
    ∃ W : Nat → Nat → Hp → Prop, (∃ m, W 0 m (upd H1 D (.dK []))) ∧ ∀ i m H, W i m H →
      (J.stop i H ∧ Qd H) ∨ (J.go i H ∧ ∃ Nx : Hp → Prop, (∀ H', Nx H' → ∃ m', m' < m ∧ W (i + 1) m' H') ∧ ∀ x H', J.yld i H x H' → g x (wipe σ vs) H' fun σ2 H2 => wipe σ2 vs = wipe σ vs ∧ tt σ2 H2 fun b H3 =>
        if b = true then tk σ2 H3 fun y H4 => tv σ2 H4 fun z H5 => ∃ kvs k, y = kV k ∧ H5 D = some (.dK kvs) ∧ kvs.length < sizeLine ∧ Nx (upd H5 D (.dK (putK kvs k z))) else Nx H3) := by
  refine ⟨fun i m H => m = n - i ∧ i ≤ n ∧ Pv i H, ⟨n, by simp, Nat.zero_le _, h0⟩, ?_⟩
  rintro i m H ⟨rfl, hi, p⟩
  have q := hG i H p
  by_cases hlt : i < n
  · exact .inr ⟨r.go i H q hlt, Pv (i + 1), fun H' p' => ⟨n - (i + 1), by omega, rfl, hlt, p'⟩, fun x H' y => hs i H x H' hlt p (r.yl i H x H' q hlt y)⟩
  · have e : i = n := by omega
    subst e
    exact .inl ⟨r.stop i H q (Nat.le_refl _), hd H p⟩
/-- the arc of a name -/
def arcOf (A : Arcs) (n : Str) : Int × Int := ((A.find? fun a => decide (a.1 = n)).map (·.2)).getD (0, 0)
theorem arcOf_mem : ∀ {A : Arcs} {a : Str × Int × Int}, (A.map (·.1)).Nodup → a ∈ A → arcOf A a.1 = a.2
  | x :: r, a, nd, h => by
    rw [List.map_cons, List.nodup_cons] at nd
    rcases List.mem_cons.mp h with e | h
    · subst e; simp [arcOf]
    · have hne : ¬ x.1 = a.1 := fun e => nd.1 (by rw [e]; exact List.mem_map_of_mem h)
      have ih := arcOf_mem nd.2 h
      unfold arcOf at ih ⊢
      rw [List.find?_cons, decide_eq_false hne]
      exact ih
theorem arcOf_perm {A B : Arcs} (nd : (A.map (·.1)).Nodup) (p : B.Perm A) {n : Str} (h : n ∈ A.map (·.1)) : arcOf B n = arcOf A n := by
  obtain ⟨a, ha, rfl⟩ := List.mem_map.mp h
  rw [arcOf_mem nd ha, arcOf_mem ((p.map _).nodup_iff.mpr nd) (p.mem_iff.mpr ha)]
/-- the arcs in the order of the names ys -/
def arcsBy (A : Arcs) (ys : List Str) : Arcs := ys.map fun n => (n, arcOf A n)
theorem arcsBy_names (A : Arcs) (ys : List Str) : (arcsBy A ys).map (·.1) = ys := by
  unfold arcsBy
  rw [List.map_map]
  show ys.map (fun n => n) = ys
  simp
theorem arcsBy_self {A : Arcs} (nd : (A.map (·.1)).Nodup) : arcsBy A (A.map (·.1)) = A := by
  unfold arcsBy
  rw [List.map_map]
  have : ∀ a ∈ A, ((fun n => (n, arcOf A n)) ∘ fun a : Str × Int × Int => a.1) a = a := fun a ha => by
    show (a.1, arcOf A a.1) = a
    rw [arcOf_mem nd ha]
  rw [List.map_congr_left this]
  simp
theorem arcsBy_perm {A : Arcs} {ys : List Str} (nd : (A.map (·.1)).Nodup) (p : ys.Perm (A.map (·.1))) : (arcsBy A ys).Perm A := by
  have := p.map (fun n => (n, arcOf A n))
  rw [show (A.map (·.1)).map (fun n => (n, arcOf A n)) = A from arcsBy_self nd] at this
  exact this
theorem ArcsOk.perm {h : Int} {A B : Arcs} (o : ArcsOk h A) (p : B.Perm A) : ArcsOk h B :=
  ⟨fun a ha => o.names a (p.mem_iff.mp ha), (p.map _).nodup_iff.mpr o.nd, fun a ha => o.st a (p.mem_iff.mp ha), fun a ha => o.ln a (p.mem_iff.mp ha)⟩
/-- arcs told loosely -/
theorem perm_kvsD {A : Arcs} {ds : List (PyData × PyData)} (p : ds.Perm (kvsD A)) : ∃ B : Arcs, B.Perm A ∧ ds = kvsD B := perm_of_map p
theorem lo_int {i : Int} {e : PyData} (h : Lo (.int i) e) : e = .int i := by cases h; rfl
theorem lo_arc {a : Int × Int} {e : PyData} (h : Lo (arcD a) e) : e = .list [.int a.1, .int a.2] ∨ e = .tuple [.int a.1, .int a.2] := by
  cases h with
  | tl al =>
    cases al with
    | cons h1 t => cases t with
      | cons h2 t2 => cases t2; rw [lo_int h1, lo_int h2]; exact .inl rfl
  | tt al =>
    cases al with
    | cons h1 t => cases t with
      | cons h2 t2 => cases t2; rw [lo_int h1, lo_int h2]; exact .inr rfl
  | leaf h1 h2 h3 => cases h3
theorem lo_arcs {A : Arcs} {d : PyData} (h : Lo (arcsD A) d) : ∃ (B : Arcs) (es : List (PyData × PyData)), B.Perm A ∧ d = .dict es ∧ LoKv (kvsD B) es := by
  cases h with
  | leaf h1 h2 h3 => cases h1
  | dct p l =>
    obtain ⟨B, pb, e⟩ := perm_kvsD p
    subst e
    exact ⟨B, _, pb, rfl, l⟩
theorem lokv_at : ∀ {B : Arcs} {es : List (PyData × PyData)}, LoKv (kvsD B) es → ∀ p ∈ es, ∃ a ∈ B, p.1 = .str a.1 ∧ (p.2 = .list [.int a.2.1, .int a.2.2] ∨ p.2 = .tuple [.int a.2.1, .int a.2.2])
  | [], _, h, p, hp => by cases h; simp at hp
  | b :: r, _, h, p, hp => by
    cases h with
    | cons h1 t =>
      rcases List.mem_cons.mp hp with e | hp
      · rw [e]; exact ⟨b, List.mem_cons_self, rfl, lo_arc h1⟩
      · obtain ⟨a, ha, q⟩ := lokv_at t p hp
        exact ⟨a, List.mem_cons_of_mem _ ha, q⟩
theorem LoKv.length : ∀ {ds es : List (PyData × PyData)}, LoKv ds es → es.length = ds.length
  | _, _, .nil => rfl
  | _, _, .cons _ t => by rw [List.length_cons, List.length_cons, LoKv.length t]
theorem kvsD_len (A : Arcs) : (kvsD A).length = A.length := by unfold kvsD; rw [List.length_map]
theorem nm_len {x : Str} (h : NameOk x) : x.length ≤ 1000 := by have := h.hi; omega
/-- such arcs are taken -/
theorem arcs_taken {h : Int} {A : Arcs} {d : PyData} (o : ArcsOk h A) (hl : A.length ≤ 40) (l : Lo (arcsD A) d) : arcsB h d = true := by
  obtain ⟨B, es, pb, rfl, lk⟩ := lo_arcs l
  have oB := o.perm pb
  have hle := lk.length
  rw [kvsD_len, pb.length_eq] at hle
  rw [arcsB, decide_eq_true (by omega), Bool.true_and, List.all_eq_true]
  intro p hp
  obtain ⟨a, ha, e1, e2⟩ := lokv_at lk p hp
  have s := oB.st a ha
  have n := oB.ln a ha
  have hv : arcL h [.int a.2.1, .int a.2.2] = true := by
    rw [arcL, betB, betB, decide_eq_true s.1, decide_eq_true (show a.2.1 ≤ h - 1 by omega), decide_eq_true n.1, decide_eq_true n.2]; rfl
  rw [e1, nameB, nmB_ok (oB.names a ha), Bool.true_and]
  rcases e2 with e | e <;> rw [e, arcB, hv]
theorem arcs_sm {h : Int} {A : Arcs} {d : PyData} (hh : h ≤ 100000) (o : ArcsOk h A) (hl : A.length ≤ 40) (l : Lo (arcsD A) d) : sm d = true := by
  obtain ⟨B, es, pb, rfl, lk⟩ := lo_arcs l
  have oB := o.perm pb
  have hle := lk.length
  rw [kvsD_len, pb.length_eq] at hle
  rw [sm, decide_eq_true (by omega), Bool.true_and]
  have hi : ∀ i : Int, 0 ≤ i → i ≤ 100000 → sm (.int i) = true := fun i h0 h1 => by rw [sm]; exact decide_eq_true (Nat.lt_of_le_of_lt (show i.natAbs ≤ 100000 by omega) (by decide))
  have key : ∀ es : List (PyData × PyData), (∀ p ∈ es, ∃ a ∈ B, p.1 = .str a.1 ∧ (p.2 = .list [.int a.2.1, .int a.2.2] ∨ p.2 = .tuple [.int a.2.1, .int a.2.2])) → smKv es = true := by
    intro es
    induction es with
    | nil => intro _; rfl
    | cons p r ih =>
      intro hk
      obtain ⟨a, ha, e1, e2⟩ := hk p List.mem_cons_self
      have s := oB.st a ha
      have n := oB.ln a ha
      obtain ⟨p1, p2⟩ := p
      dsimp only at e1 e2
      rw [smKv, ih fun q hq => hk q (List.mem_cons_of_mem _ hq), e1, sm, decide_eq_true (nm_len (oB.names a ha))]
      rcases e2 with e | e <;> rw [e, sm, smAll, smAll, smAll, hi _ s.1 (by omega), hi _ (by omega) (by omega)] <;> rfl
  exact key es (lokv_at lk)
theorem lk_h {x y : V} : List.lookup ("own_hours" : Str) [(("own_hours" : Str), x), (("own_arcs" : Str), y)] = some x := by
  rw [List.lookup, show (("own_hours" : Str) == ("own_hours" : Str)) = true by decide +kernel]
theorem lk_a {x y : V} : List.lookup ("own_arcs" : Str) [(("own_hours" : Str), x), (("own_arcs" : Str), y)] = some y := by
  rw [List.lookup, show (("own_arcs" : Str) == ("own_hours" : Str)) = false by decide +kernel, List.lookup, show (("own_arcs" : Str) == ("own_arcs" : Str)) = true by decide +kernel]
/-- no attribute of that name -/
theorem lk_no {m : Str} {x y : V} (h1 : (m == ("own_hours" : Str)) = false := by decide +kernel) (h2 : (m == ("own_arcs" : Str)) = false := by decide +kernel) : List.lookup m [(("own_hours" : Str), x), (("own_arcs" : Str), y)] = none := by
  rw [List.lookup, h1, List.lookup, h2, List.lookup]
theorem putF2 {x y : V} : putF "own_arcs" y (putF "own_hours" x []) = [(("own_hours" : Str), x), (("own_arcs" : Str), y)] := by
  rw [putF, putF, if_neg (by decide +kernel), putF]
/-- a dict of arcs, read by a name -/
theorem arcs_get {S : List Addr} {H : Hp} {A : Arcs} {kvs : List (Key × V)} (nd : (A.map (·.1)).Nodup) (ik : ImKv S H kvs (kvsD A)) {n : Str} (hn : n ∈ A.map (·.1)) : ∃ v, valV kvs (.inr n) = some v ∧ Im S H v (arcD (arcOf A n)) := by
  obtain ⟨a, ha, rfl⟩ := List.mem_map.mp hn
  obtain ⟨i, hi, e⟩ := List.mem_iff_getElem.mp ha
  have ndk : (kvs.map (·.1)).Nodup := by rw [kvs_keys ik]; exact inr_nodup nd
  have hl := ik.length
  rw [kvsD_len] at hl
  have hi2 : i < kvs.length := by omega
  obtain ⟨d, ed, im⟩ := ik.get (List.getElem?_eq_getElem hi2)
  have e2 : (kvsD A)[i]? = some (.str a.1, arcD a.2) := by
    unfold kvsD
    rw [List.getElem?_map, List.getElem?_eq_getElem hi, e]; rfl
  rw [e2] at ed
  injection ed with ed
  injection ed with ek ev
  have hk : kvs[i].1 = .inr a.1 := kD_inj (by rw [← ek]; rfl)
  refine ⟨kvs[i].2, valV_of ndk ?_, ?_⟩
  · rw [← hk]; exact List.getElem_mem hi2
  · rw [arcOf_mem nd ha, ev]; exact im
/-- arcs told loosely, read by a name -/
theorem lo_get {S : List Addr} {H : Hp} {B : Arcs} {es : List (PyData × PyData)} {kvs : List (Key × V)} (nd : (B.map (·.1)).Nodup) (lk : LoKv (kvsD B) es) (ik : ImKv S H kvs es) (ndk : (kvs.map (·.1)).Nodup) {n : Str} (hn : n ∈ B.map (·.1)) :
    ∃ v d, valV kvs (.inr n) = some v ∧ Im S H v d ∧ (d = .list [.int (arcOf B n).1, .int (arcOf B n).2] ∨ d = .tuple [.int (arcOf B n).1, .int (arcOf B n).2]) := by
  obtain ⟨a, ha, rfl⟩ := List.mem_map.mp hn
  have hk : PyData.str a.1 ∈ es.map (·.1) := by
    rw [lk.keys]
    exact List.mem_map.mpr ⟨(.str a.1, arcD a.2), List.mem_map.mpr ⟨a, ha, rfl⟩, rfl⟩
  obtain ⟨p, hp, ep⟩ := List.mem_map.mp hk
  obtain ⟨b, hb, e1, e2⟩ := lokv_at lk p hp
  rw [ep] at e1
  injection e1 with e1
  obtain ⟨i, hi, e⟩ := List.mem_iff_getElem.mp hp
  have hi2 : i < kvs.length := by rw [ik.length]; exact hi
  obtain ⟨d, ed, im⟩ := ik.get (List.getElem?_eq_getElem hi2)
  rw [List.getElem?_eq_getElem hi, e] at ed
  injection ed with ed
  rw [ed] at ep
  have hk : kvs[i].1 = .inr a.1 := kD_inj ep
  refine ⟨kvs[i].2, d, valV_of ndk ?_, im, ?_⟩
  · rw [← hk]; exact List.getElem_mem hi2
  · rw [show arcOf B a.1 = b.2 by rw [e1]; exact arcOf_mem nd hb]
    rw [ed] at e2
    exact e2
theorem Im.pairish {K : PySem.W.Frag} {S : List Addr} {H : Hp} {v : V} {d : PyData} {x y : Int} (h : Im S H v d) (e : d = .list [.int x, .int y] ∨ d = .tuple [.int x, .int y]) : ∃ p, v = .ref p ∧ p ∉ S ∧ (SqL K H p [.int x, .int y] ∨ SqT K H p [.int x, .int y]) := by
  rcases e with e | e
  · subst e
    cases h with
    | @lst p xs ds n r al =>
      have := al.ints_inv (ns := [x, y])
      subst this
      exact ⟨p, rfl, n, .inl (.inl r)⟩
  · subst e
    cases h with
    | @tup p xs ds n r al =>
      have := al.ints_inv (ns := [x, y])
      subst this
      exact ⟨p, rfl, n, .inr (.inl r)⟩
theorem s_ixq {K : PySem.W.Frag} {H : Hp} {Q : VK} {v : V} {p : Addr} {xs : List V} {i : Int} (hq : SqL K H p xs ∨ SqT K H p xs) (ha : atI xs i = some v) (h : Q v H) : rIx K (.ref p) (.int i) H Q :=
  hq.elim (fun hq => .inl ⟨p, xs, i, v, rfl, rfl, hq, ha, h⟩) (fun hq => .inr (.inl ⟨p, xs, i, v, rfl, rfl, hq, ha, h⟩))
theorem arcsBy_snoc {A : Arcs} {ys : List Str} {i : Nat} (hi : i < ys.length) : arcsBy A (ys.take (i + 1)) = arcsBy A (ys.take i) ++ [(ys[i], arcOf A ys[i])] := by
  unfold arcsBy
  rw [List.take_add_one, List.getElem?_eq_getElem hi, List.map_append]; rfl
theorem take_new {ys : List Str} (nd : ys.Nodup) {i : Nat} (hi : i < ys.length) : ys[i] ∉ ys.take i := fun h => by
  obtain ⟨j, hj, e⟩ := List.mem_iff_getElem.mp h
  rw [List.length_take] at hj
  rw [List.getElem_take] at e
  have := (List.nodup_iff_pairwise_ne.mp nd)
  rw [List.pairwise_iff_getElem] at this
  exact this j i (by omega) hi (by omega) e
/-- two pairs of ints, compared -/
def rPairs (K : PySem.W.Frag) (neg : Bool) : R2 := fun x y H Q => ∃ (a b : Addr) (i j k l : Int), x = .ref a ∧ y = .ref b ∧ SqT K H a [.int i, .int j] ∧ SqT K H b [.int k, .int l] ∧ Q (.bl (decide ((i, j) = (k, l)) != neg)) H
theorem pair_eqv (i j k l : Int) : PyData.eqv (.tuple [.int i, .int j]) (.tuple [.int k, .int l]) = decide ((i, j) = (k, l)) := by
  rw [PyData.eqv, PyData.eqvAll, PyData.eqvAll, PyData.eqvAll, PyData.eqv, PyData.eqv, Bool.and_true]
  by_cases h1 : i = k
  · by_cases h2 : j = l
    · subst h1; subst h2; simp
    · subst h1; simp [h2]
  · simp [h1]
theorem pair_shaped (i j : Int) : SeqAt.shaped (.tuple [.int i, .int j]) = true := by
  rfl
theorem keqPair (K : PySem.W.Frag) {X : Cx} {k : Nat} (hr : Room k X.A) (hK : X.K = K := by rfl) : OpR X (compareOp .Eq) (rPairs K false) := by
  subst hK
  intro pins s σ H x y v u Q I rx ry h
  obtain ⟨a, b, i, j, k, l, rfl, rfl, h1, h2, q⟩ := h
  refine op_eqD (by have := hr.un; omega) pins s σ H _ _ v u Q I rx ry ⟨.tuple [.int i, .int j], .tuple [.int k, .int l], .tup h1 (.cons (.int i) (.cons (.int j) .nil)), .tup h2 (.cons (.int k) (.cons (.int l) .nil)), pair_shaped i j, pair_shaped k l, ?_⟩
  rw [pair_eqv]
  rw [Bool.bne_false] at q
  exact q
theorem knePair (K : PySem.W.Frag) {X : Cx} {k : Nat} (hr : Room k X.A) (hK : X.K = K := by rfl) : OpR X (compareOp .NotEq) (rPairs K true) := by
  subst hK
  intro pins s σ H x y v u Q I rx ry h
  obtain ⟨a, b, i, j, k, l, rfl, rfl, h1, h2, q⟩ := h
  refine op_neD (by have := hr.un; omega) pins s σ H _ _ v u Q I rx ry ⟨.tuple [.int i, .int j], .tuple [.int k, .int l], .tup h1 (.cons (.int i) (.cons (.int j) .nil)), .tup h2 (.cons (.int k) (.cons (.int l) .nil)), pair_shaped i j, pair_shaped k l, ?_⟩
  rw [pair_eqv]
  rw [Bool.bne_true] at q
  exact q
/-- whether a text is one of the names -/
theorem has_key {S : List Addr} {H : Hp} {A : Arcs} {kvs : List (Key × V)} (ik : ImKv S H kvs (kvsD A)) (x : Str) : (valV kvs (.inr x)).isSome = decide (x ∈ A.map (·.1)) := by
  rw [← valV_any]
  have e := kvs_keys ik
  by_cases h : x ∈ A.map (·.1)
  · rw [decide_eq_true h, List.any_eq_true]
    have : (Sum.inr x : Key) ∈ kvs.map (·.1) := by rw [e]; exact List.mem_map_of_mem h
    obtain ⟨p, hp, ep⟩ := List.mem_map.mp this
    exact ⟨p, hp, decide_eq_true ep⟩
  · rw [decide_eq_false h, List.any_eq_false]
    intro p hp z
    have ep := of_decide_eq_true z
    have : (Sum.inr x : Key) ∈ kvs.map (·.1) := by rw [← ep]; exact List.mem_map_of_mem hp
    rw [e] at this
    obtain ⟨y, hy, ey⟩ := List.mem_map.mp this
    injection ey with ey
    rw [ey] at hy
    exact h hy
/-- at a: a ring of the class at C with these hours and arcs -/
def RingR (S : List Addr) (H : Hp) (C a : Addr) (h : Int) (A : Arcs) : Prop := a ∉ S ∧ ∃ dx d : Addr, H a = some (.ins C dx [("own_hours", .int h), ("own_arcs", .ref d)]) ∧ Im S H (.ref d) (arcsD A)
theorem RingR.nx {S : List Addr} {H H' : Hp} {C a : Addr} {h : Int} {A : Arcs} (g : Nx S H H') (r : RingR S H C a h A) : RingR S H' C a h A := by
  obtain ⟨n, dx, d, e, i⟩ := r
  exact ⟨n, dx, d, g.kp a _ n e, i.nx g⟩
theorem RingR.al {S : List Addr} {H : Hp} {C a : Addr} {h : Int} {A : Arcs} (r : RingR S H C a h A) : H a ≠ none := by
  obtain ⟨n, dx, d, e, i⟩ := r
  rw [e]; simp
theorem RingR.sub {S T : List Addr} {H : Hp} {C a : Addr} {h : Int} {A : Arcs} (g : ∀ x ∈ T, x ∈ S ∨ H x = none) (r : RingR S H C a h A) : RingR T H C a h A := by
  have ra := r.al
  obtain ⟨n, dx, d, e, i⟩ := r
  exact ⟨fun z => (g a z).elim n ra, dx, d, e, Im.sub g _ i⟩
/-- an older ring, after a new object at D -/
theorem RingR.over {S : List Addr} {H H' : Hp} {C a D : Addr} {h : Int} {A : Arcs} (n : H D = none) (g : Nx (D :: S) H H') (r : RingR S H C a h A) : RingR (D :: S) H' C a h A :=
  (r.sub (fun x hx => (List.mem_cons.mp hx).elim (fun z => .inr (by rw [z]; exact n)) .inl)).nx g
end RG

/-! what a map of rings is, in plain words -/
namespace RG
open PySem PySem.Spec PyProof.Rows L2
def lookD : List (PyData × PyData) → Str → Option PyData
  | [], _ => none
  | (.str x, v) :: r, n => if x = n then some v else lookD r n
  | (.none, _) :: r, n => lookD r n
  | (.bool _, _) :: r, n => lookD r n
  | (.int _, _) :: r, n => lookD r n
  | (.list _, _) :: r, n => lookD r n
  | (.tuple _, _) :: r, n => lookD r n
  | (.dict _, _) :: r, n => lookD r n
/-- the text that stands for a name, if it is one -/
def imgD (ds : List (PyData × PyData)) (n : Str) : Option Str := match lookD ds n with
  | some (.str m) => some m
  | _ => none
def stepB (h : Int) (A B : Arcs) (turn : Int) (ds : List (PyData × PyData)) (n : Str) : Bool := match imgD ds n with
  | some m => decide (m ∈ B.map (·.1)) && decide (arcOf B m = (((arcOf A n).1 + turn) % h, (arcOf A n).2))
  | none => false
def isMapB (h : Int) (A : Arcs) (h2 : Int) (B : Arcs) (turn : Int) : PyData → Bool
  | .dict ds => decide (ds.length = A.length) && (decide (A.length = B.length) && decide (h = h2)) && ((A.map (·.1)).all (stepB h A B turn ds) && decide ((A.map (·.1)).map (imgD ds)).Nodup)
  | _ => false
theorem look_im {S : List Addr} {H : Hp} {n : Str} : ∀ {kvs : List (Key × V)} {ds : List (PyData × PyData)}, ImKv S H kvs ds → (valV kvs (.inr n) = none ∧ lookD ds n = none) ∨ ∃ v d, valV kvs (.inr n) = some v ∧ lookD ds n = some d ∧ Im S H v d
  | _, _, .nil => .inl ⟨valV_nil, rfl⟩
  | _, _, .cons (k := k) (v := v) (d := d) a t => by
    cases k with
    | inl i =>
      have ih := look_im (n := n) t
      rw [valV_neg (by intro z; cases z)]
      exact ih
    | inr x =>
      by_cases e : x = n
      · subst e
        exact .inr ⟨v, d, valV_pos rfl, if_pos rfl, a⟩
      · have ih := look_im (n := n) t
        rw [valV_neg (by intro z; injection z with z; exact e z)]
        show (_ ∧ (if x = n then some d else lookD _ n) = none) ∨ ∃ v' d', _ ∧ (if x = n then some d else lookD _ n) = some d' ∧ _
        rw [if_neg e]
        exact ih
theorem key_in {kv : List (Key × V)} {ms : List Str} (e : kv.map (·.1) = ms.map Sum.inr) (x : Str) : (valV kv (.inr x)).isSome = decide (x ∈ ms) := by
  rw [← valV_any]
  by_cases h : x ∈ ms
  · rw [decide_eq_true h, List.any_eq_true]
    have : (Sum.inr x : Key) ∈ kv.map (·.1) := by rw [e]; exact List.mem_map_of_mem h
    obtain ⟨p, hp, ep⟩ := List.mem_map.mp this
    exact ⟨p, hp, decide_eq_true ep⟩
  · rw [decide_eq_false h, List.any_eq_false]
    intro p hp z
    have ep := of_decide_eq_true z
    have : (Sum.inr x : Key) ∈ kv.map (·.1) := by rw [← ep]; exact List.mem_map_of_mem hp
    rw [e] at this
    obtain ⟨y, hy, ey⟩ := List.mem_map.mp this
    injection ey with ey
    rw [ey] at hy
    exact h hy
theorem all_perm {α : Type} {p : α → Bool} {xs ys : List α} (h : xs.Perm ys) : xs.all p = ys.all p := by
  rw [Bool.eq_iff_iff, List.all_eq_true, List.all_eq_true]
  exact ⟨fun a x hx => a x (h.mem_iff.mpr hx), fun a x hx => a x (h.mem_iff.mp hx)⟩
/-- by another order of the names -/
theorem isMap_by {h : Int} {A : Arcs} {h2 : Int} {B : Arcs} {turn : Int} {ds : List (PyData × PyData)} {ys : List Str} (p : ys.Perm (A.map (·.1))) :
    isMapB h A h2 B turn (.dict ds) = (decide (ds.length = A.length) && (decide (A.length = B.length) && decide (h = h2)) && (ys.all (stepB h A B turn ds) && decide (ys.map (imgD ds)).Nodup)) := by
  rw [isMapB, ← all_perm p, decide_eq_decide.mpr (p.map (imgD ds)).nodup_iff.symm]
def hasImg (B : Arcs) (ds : List (PyData × PyData)) (n : Str) : Bool := match imgD ds n with
  | some m => decide (m ∈ B.map (·.1))
  | none => false
def arcFits (h : Int) (A B : Arcs) (turn : Int) (ds : List (PyData × PyData)) (n : Str) : Bool := match imgD ds n with
  | some m => decide (arcOf B m = (((arcOf A n).1 + turn) % h, (arcOf A n).2))
  | none => false
theorem step_two (h : Int) (A B : Arcs) (turn : Int) (ds : List (PyData × PyData)) (n : Str) : stepB h A B turn ds n = (hasImg B ds n && arcFits h A B turn ds n) := by
  unfold stepB hasImg arcFits
  cases imgD ds n <;> rfl
theorem all_and {α : Type} (p q : α → Bool) (xs : List α) : xs.all (fun x => p x && q x) = (xs.all p && xs.all q) := by
  induction xs with
  | nil => rfl
  | cons x r ih =>
    rw [List.all_cons, List.all_cons, List.all_cons, ih]
    cases p x <;> cases q x <;> cases r.all p <;> simp
theorem isMap_two {h : Int} {A B : Arcs} {turn : Int} {ds : List (PyData × PyData)} : isMapB h A h B turn (.dict ds) =
    (decide (ds.length = A.length) && (decide (A.length = B.length)) && ((A.map (·.1)).all (hasImg B ds) && (A.map (·.1)).all (arcFits h A B turn ds) && decide ((A.map (·.1)).map (imgD ds)).Nodup)) := by
  rw [isMapB, decide_eq_true (rfl : h = h), Bool.and_true, ← all_and, show (stepB h A B turn ds) = (fun x => hasImg B ds x && arcFits h A B turn ds x) from funext fun n => step_two h A B turn ds n]
/-- one name fails -/
theorem map_step {h : Int} {A B : Arcs} {turn : Int} {ds : List (PyData × PyData)} {ys : List Str} {n : Str} (hn : n ∈ ys) (hs : stepB h A B turn ds n = false) : ys.all (stepB h A B turn ds) = false := by
  rw [List.all_eq_false]
  exact ⟨n, hn, by rw [hs]; decide⟩
/-- two names have one image -/
theorem map_twice {ds : List (PyData × PyData)} {ys : List Str} {i : Nat} (hi : i < ys.length) {m : Str} (e : imgD ds ys[i] = some m) (h : some m ∈ (ys.take i).map (imgD ds)) : ¬ (ys.map (imgD ds)).Nodup := by
  intro nd
  have h1 : ys.map (imgD ds) = (ys.take i).map (imgD ds) ++ (ys.drop i).map (imgD ds) := by rw [← List.map_append, List.take_append_drop]
  rw [h1] at nd
  refine (List.nodup_append.mp nd).2.2 _ h _ ?_ rfl
  rw [← e]
  refine List.mem_map_of_mem ?_
  rw [List.drop_eq_getElem_cons hi]
  exact List.mem_cons_self
end RG

/-! comprehensions that make data -/
namespace RG
open PySem PySem.Spec PyProof.Rows L2
theorem lc_data {J : It} {n : Nat} {G : Hp → Prop} {Y : Nat → Hp → V → Hp → Prop} {g : TG} {te : TE} {vs : List Nat} {σ : L2.St} {H1 : Hp} {D : Addr} {S T : List Addr} {Qd : Hp → Prop} (r : Runs J n G Y) (hn : n ≤ 100000) (nD : H1 D = none) (al : Al S H1) (hT : ∀ x ∈ T, x ∈ S)
    (P : Nat → Hp → Prop) (hP0 : P 0 H1) (hPw : ∀ i H o, P i H → P i (upd H D o)) (f : Nat → PyData → Prop) (hG : ∀ H', Nx (D :: T) H1 H' → G H')
    (hs : ∀ i H x H', i < n → Nx (D :: T) H1 H → Al (D :: S) H → P i H → Y i H x H' → g x (wipe σ vs) H' fun σ2 H2 => wipe σ2 vs = wipe σ vs ∧ ∀ Q' : VK, (∀ y d H3, f i d → Im (D :: S) H3 y d → Nx T H H3 → P (i + 1) H3 → Q' y H3) → te σ2 H2 Q')
    (hd : ∀ H acc ds, H D = some (.lst acc) → ds.length = n → (∀ i, i < n → ∃ d, ds[i]? = some d ∧ f i d) → ImAll (D :: S) H acc ds → Nx T H1 H → P n H → Qd H) (hmono : ∀ x σ H Q Q', (∀ σ2 H2, Q σ2 H2 → Q' σ2 H2) → g x σ H Q → g x σ H Q') :
    ∃ W : Nat → Nat → Hp → Prop, (∃ m, W 0 m (upd H1 D (.lst []))) ∧ ∀ i m H, W i m H →
      (J.stop i H ∧ Qd H) ∨ (J.go i H ∧ ∃ Nx : Hp → Prop, (∀ H', Nx H' → ∃ m', m' < m ∧ W (i + 1) m' H') ∧ ∀ x H', J.yld i H x H' → g x (wipe σ vs) H' fun σ2 H2 => wipe σ2 vs = wipe σ vs ∧ tYes σ2 H2 fun b H3 =>
        if b = true then te σ2 H3 fun y H4 => ∃ acc, H4 D = some (.lst acc) ∧ acc.length < sizeLine ∧ Nx (upd H4 D (.lst (acc ++ [y]))) else Nx H3) := by
  have hDT : D ∉ T := fun z => al.ne nD (hT D z)
  refine lc_runs r (fun i H' => ∃ acc ds, H' D = some (.lst acc) ∧ ds.length = i ∧ (∀ j, j < i → ∃ d, ds[j]? = some d ∧ f j d) ∧ ImAll (D :: S) H' acc ds ∧ Nx (D :: T) H1 H' ∧ P i H')
    ⟨[], [], upd_same, rfl, fun j z => absurd z (Nat.not_lt_zero _), .nil, .put List.mem_cons_self, hPw _ _ _ hP0⟩ (fun i H' => fun ⟨_, _, _, _, _, _, g, _⟩ => hG H' g) ?_ ?_
  · rintro i H x H' hi ⟨acc, ds, eD, hl, hf, im, gx, hp⟩ y
    have alD : Al (D :: S) H := (al.mono gx).cons eD
    refine hmono _ _ _ _ _ (fun σ2 H2 ⟨h1, h2⟩ => ⟨h1, s_yes ?_⟩) (hs i H x H' hi gx alD hp y)
    rw [if_pos rfl]
    refine h2 _ fun y d H3 fd imd g3 p3 => ?_
    have eD3 : H3 D = some (.lst acc) := g3.kp D _ hDT eD
    have hTS : ∀ x ∈ D :: T, x ∈ D :: S := fun x hx => (List.mem_cons.mp hx).elim (fun z => by rw [z]; exact List.mem_cons_self) (fun z => List.mem_cons_of_mem _ (hT x z))
    have g4 : Nx (D :: T) H (upd H3 D (.lst (acc ++ [y]))) := (g3.mono (fun x hx => List.mem_cons_of_mem _ hx)).putP List.mem_cons_self
    refine ⟨acc, eD3, ?_, acc ++ [y], ds ++ [d], upd_same, by rw [List.length_append, hl]; rfl, fun j hj => ?_, ?_, gx.trans g4, hPw _ _ _ p3⟩
    · rw [im.length, hl]; exact Nat.lt_of_lt_of_le (show i < 100000 by omega) (by decide)
    · by_cases hji : j < i
      · obtain ⟨d', e, q⟩ := hf j hji
        exact ⟨d', by rw [List.getElem?_append_left (by omega)]; exact e, q⟩
      · have : j = i := by omega
        subst this
        exact ⟨d, by rw [List.getElem?_append_right (by omega), hl]; simp, fd⟩
    · exact (im.nx (g4.mono hTS)).snoc (imd.nx (.put List.mem_cons_self))
  · rintro H ⟨acc, ds, eD, hl, hf, im, gx, hp⟩
    exact hd H acc ds eD hl hf im (gx.drop nD) hp
theorem gName_mono {i : Nat} (x : V) (σ : L2.St) (H : Hp) (Q Q' : L2.St → Hp → Prop) (h : ∀ σ2 H2, Q σ2 H2 → Q' σ2 H2) (q : gName i x σ H Q) : gName i x σ H Q' := h _ _ q
/-- as before, but for a lock on a -/
structure Nl (a : Addr) (H H' : Hp) : Prop where
  rx : Rx [] H H'
  kp : ∀ b o, b ≠ a → H b = some o → H' b = some o
  th : ∀ b, H b ≠ none → H' b ≠ none
theorem Nl.nx {a : Addr} {H H1 H2 : Hp} (l : Nl a H H1) (g : Nx [] H1 H2) : Nl a H H2 := ⟨l.rx.trans g.rx, fun b o hb e => g.kp b o (by simp) (l.kp b o hb e), fun b h => g.th b (l.th b h)⟩
theorem Nl.fresh {a : Addr} {H H' : Hp} (g : Nl a H H') {p : Addr} (h : H' p = none) : H p = none := by
  cases e : H p with
  | none => rfl
  | some o => exact absurd h (g.th p (by rw [e]; simp))
theorem Nl.of {a : Addr} {H H1 : Hp} (gx : Rx [] H H1) (gb : ∀ b, b ≠ a → H1 b = H b) {u : HO} (ra : H1 a = some u) : Nl a H H1 := ⟨gx, fun b o hb e => by rw [gb b hb]; exact e, fun b h => by
  by_cases e : b = a
  · rw [e, ra]; simp
  · rw [gb b e]; exact h⟩
/-- [e for name in d], e data, no draws -/
theorem lc_keysD {k : Nat} {te : TE} {σ : L2.St} {H : Hp} {a : Addr} {td : TE} {kvs : List (Key × V)} {S : List Addr} {Q : VK} (ra : Rd H a (.dK kvs)) (al : Al S H) (hn : kvs.length ≤ 100000) (hw : ∀ x, wipe ((wipe σ [k]).set k (some x)) [k] = wipe σ [k])
    (htd : ∀ (H' : Hp) (Q : VK), Q (.ref a) H' → td σ H' Q) (f : Nat → PyData)
    (hs : ∀ i key v D H' (Q' : VK), kvs[i]? = some (key, v) → Nl a H H' → H D = none → Al (D :: S) H' → (∀ y H3, Im (D :: S) H3 y (f i) → Nx [] H' H3 → Q' y H3) → te ((wipe σ [k]).set k (some (kV key))) H' Q')
    (q : ∀ D acc ds H', H D = none → H' D = some (.lst acc) → ds.length = kvs.length → (∀ i, i < kvs.length → ds[i]? = some (f i)) → ImAll (D :: S) H' acc ds → Nx [] H H' → Q (.ref D) H') :
    tLockU (tLc (iKeys td) (gName k) tYes te [k]) σ H Q := by
  refine lock_e ra (fun H1 od R gx gb e1 hR => s_lc (s_ikeys (htd _ _ ⟨a, od, rfl, .inl ⟨kvs, e1, fun D nD => ?_⟩⟩)))
  have l1 : Nl a H H1 := .of gx gb e1
  have hDa : D ≠ a := fun z => by rw [z, e1] at nD; cases nD
  have nD0 : H D = none := l1.fresh nD
  have al1 : Al S H1 := fun x hx => l1.th x (al x hx)
  refine lc_data (T := []) (S := S) runs_keys hn nD al1 (by simp) (fun _ _ => True) trivial (fun _ _ _ _ => trivial) (fun i d => d = f i) (fun H' g => g.kp a _ (by simpa using hDa.symm) e1) ?_ ?_ gName_mono
  · rintro i Hx x H' hi g4 alD - ⟨e, key, v, ek, rfl⟩
    subst e
    refine ⟨hw _, fun Q' hq => hs i key v D H' Q' ek (l1.nx (g4.drop nD)) nD0 alD fun y H3 im g3 => hq y _ H3 rfl im g3 trivial⟩
  · rintro H' acc ds eD hl hf im g -
    have eL : H' a = some (.frz od (.dK kvs)) := g.kp a _ (by simp) e1
    refine hR _ _ eL fun H2 gx2 gb2 e2 => ?_
    refine q D acc ds H2 nD0 (by rw [gb2 D hDa]; exact eD) hl (fun i hi => by obtain ⟨d, ed, rfl⟩ := hf i hi; exact ed) (ImAll.rx gx2.mono0 _ im) ⟨fun c o _ h => ?_, fun c h => ?_⟩
    · by_cases hc : c = a
      · rw [hc, e2, ← hc]; exact h
      · rw [gb2 c hc]; exact g.kp c o (by simp) (l1.kp c o hc h)
    · by_cases hc : c = a
      · rw [hc, e2, ← hc]; exact h
      · rw [gb2 c hc]; exact g.th c (l1.th c h)
theorem ImAll.bools_inv {S : List Addr} {H : Hp} : ∀ {bs : List Bool} {vs : List V}, ImAll S H vs (bs.map PyData.bool) → vs = bs.map V.bl
  | [], _, .nil => rfl
  | b :: r, _, .cons a t => by cases a; rw [List.map_cons, ImAll.bools_inv t]
theorem arcs_at {S : List Addr} {H : Hp} {A : Arcs} {kvs : List (Key × V)} (ik : ImKv S H kvs (kvsD A)) {i : Nat} {key : Key} {v : V} (e : kvs[i]? = some (key, v)) : ∃ a, A[i]? = some a ∧ key = .inr a.1 ∧ Im S H v (arcD a.2) := by
  obtain ⟨d, ed, im⟩ := ik.get e
  unfold kvsD at ed
  rw [List.getElem?_map] at ed
  cases h : A[i]? with
  | none => rw [h] at ed; cases ed
  | some a =>
    rw [h] at ed
    injection ed with ed
    injection ed with e1 e2
    refine ⟨a, rfl, kD_inj e1.symm, ?_⟩
    rw [← e2] at im
    exact im
theorem merge_le : ∀ (more acc : List (Key × V)), (mergeK acc more).length ≤ acc.length + more.length
  | [], acc => by simp [mergeK]
  | (k, v) :: r, acc => by
    have h := merge_le r (putK acc k v)
    show (mergeK (putK acc k v) r).length ≤ _
    have : (putK acc k v).length ≤ acc.length + 1 := by
      unfold putK
      split <;> simp
    rw [List.length_cons]; omega
/-- a key twice: fewer entries -/
theorem merge_lt : ∀ (more acc : List (Key × V)), (acc.map (·.1)).Nodup → ¬ ((acc ++ more).map (·.1)).Nodup → (mergeK acc more).length < acc.length + more.length
  | [], acc, h1, h2 => absurd (by rw [List.append_nil]; exact h1) h2
  | (k, v) :: r, acc, h1, h2 => by
    show (mergeK (putK acc k v) r).length < _
    by_cases hk : k ∈ acc.map (·.1)
    · have h := merge_le r (putK acc k v)
      have e : (putK acc k v).length = acc.length := by
        unfold putK
        rw [if_pos]
        · simp
        · obtain ⟨p, hp, e⟩ := List.mem_map.mp hk
          exact List.any_eq_true.mpr ⟨p, hp, decide_eq_true e⟩
      rw [List.length_cons]; omega
    · rw [putK_new hk]
      have h := merge_lt r (acc ++ [(k, v)]) (by
        rw [List.map_append]
        exact List.nodup_append.mpr ⟨h1, by simp, fun x hx y hy z => hk (by
          have hy' : y = k := by simpa using hy
          rw [← hy', ← z]; exact hx)⟩) (by rw [List.append_assoc]; exact h2)
      rw [List.length_append] at h
      rw [List.length_cons]
      simp only [List.length_cons, List.length_nil] at h
      omega
/-- a list by its items -/
theorem list_by {α : Type} {ds : List α} {n : Nat} {f : Nat → α} (hl : ds.length = n) (h : ∀ i, i < n → ds[i]? = some (f i)) : ds = (List.range n).map f := by
  refine List.ext_getElem? fun i => ?_
  by_cases hi : i < n
  · rw [h i hi, List.getElem?_map, List.getElem?_range hi]; rfl
  · rw [List.getElem?_eq_none (by omega), List.getElem?_eq_none (by simpa using hi)]
theorem map_by {α β : Type} {xs : List α} {n : Nat} (hl : xs.length = n) (g : α → β) (f : Nat → β) (h : ∀ i x, xs[i]? = some x → f i = g x) : (List.range n).map f = xs.map g := by
  refine List.ext_getElem? fun i => ?_
  by_cases hi : i < n
  · rw [List.getElem?_map, List.getElem?_range hi, List.getElem?_map, List.getElem?_eq_getElem (by omega)]
    show some (f i) = some (g _)
    rw [h i _ (List.getElem?_eq_getElem (by omega))]
  · rw [List.getElem?_eq_none (by simpa using hi), List.getElem?_eq_none (by simp; omega)]
theorem nodup_inj {α β : Type} {f : α → β} (hf : ∀ a b, f a = f b → a = b) {xs : List α} : (xs.map f).Nodup ↔ xs.Nodup := by
  rw [List.nodup_iff_pairwise_ne, List.nodup_iff_pairwise_ne, List.pairwise_map]
  exact ⟨fun h => h.imp fun {a b} hab (z : a = b) => hab (by rw [z]), fun h => h.imp fun {a b} hab (z : f a = f b) => hab (hf a b z)⟩
/-- the i-th name -/
def nmAt (A : Arcs) (i : Nat) : Str := (A.map (·.1)).getD i (Str.ofString "")
theorem nmAt_of {A : Arcs} {i : Nat} {x : Str × Int × Int} (e : A[i]? = some x) : nmAt A i = x.1 := by
  unfold nmAt
  rw [List.getD_eq_getElem?_getD, List.getElem?_map, e]; rfl
/-- made by index, told by name -/
theorem by_names {β : Type} {A : Arcs} {ds : List β} {F : Str → β} {n : Nat} (hn : n = A.length) (hl : ds.length = n) (h : ∀ i, i < n → ds[i]? = some (F (nmAt A i))) : ds = (A.map (·.1)).map F := by
  rw [list_by hl h]
  refine map_by (by rw [List.length_map]; omega) F _ fun i x e => ?_
  rw [List.getElem?_map] at e
  cases ha : A[i]? with
  | none => rw [ha] at e; cases e
  | some a =>
    rw [ha] at e
    cases e
    rw [nmAt_of ha]
end RG

/-! dict(zip(texts, values)) -/
namespace RG
open PySem PySem.Spec PyProof.Rows L2
theorem kv_zip : ∀ {xs : List Str} {ys : List V} {us : List Value}, Vals ys us → KV ((xs.map (Sum.inr : Str → Key)).zip ys) ((xs.map (Sum.inr : Str → Key)).zip us)
  | [], _, _, _ => .nil
  | _ :: _, _, _, .nil => .nil
  | x :: r, _, _, .cons h t => .cons ⟨rfl, h⟩ (kv_zip (xs := r) t)
section
variable {X : Cx} {e e2 : Expr} {ta : TA} {p p2 pos pos2 : Pos}
def tDictZip (K : PySem.W.Frag) (ta : TA) : TE := fun σ H Q => ta σ H fun vs H1 => ∃ (a b : Addr) (xs : List Str) (ys : List V), vs = [.ref a, .ref b] ∧ SqL K H1 a (xs.map V.str) ∧ SqL K H1 b ys ∧ xs.length = ys.length ∧
  ∀ p, H1 p = none → Q (.ref p) (upd H1 p (.dK (mergeK [] ((xs.map Sum.inr).zip ys))))
theorem pe_dictzip (K : PySem.W.Frag) (hc : X.calm = true) (hg : Gl X "dict") (hm : X.mg "dict" = none) (hg2 : Gl X "zip") (hm2 : X.mg "zip" = none) (ha : PA X [e, e2] ta)
    (hs0 : starEach [.Call (.Name "zip" p2) [e, e2] [] pos2] X.env = [(false, eval (.Call (.Name "zip" p2) [e, e2] [] pos2) X.env)] := by rfl)
    (hs : starEach [e, e2] X.env = (false, eval e X.env) :: starEach [e2] X.env := by rfl) (hpl : (backTo pos2 (starEach [e2] X.env)).any (·.1) = false := by rfl) (hK : X.K = K := by rfl) :
    PE X (.Call (.Name "dict" p) [.Call (.Name "zip" p2) [e, e2] [] pos2] [] pos) (tDictZip K ta) := by
  subst hK
  refine ⟨fun pins s σ H Q I h => ?_⟩
  refine wpAny_Call_Name_kw (ld_blt I hg hm (by decide +kernel : bootBuiltins "dict" = some (.type "dict")) (PyProof.Rows.callWith_type1 ?_ hs0 rfl))
  rw [hs0]
  refine Calls.spliced_cons ?_
  refine Call_ (ld_blt I hg2 hm2 PyProof.Rows.boot_zip (PyProof.Rows.callWith_type1 (thn (ha.run pos2 pins s σ H _ I h) fun us s1 ⟨vs, H1, I1, r1, q1⟩ => ?_) hs hpl))
  obtain ⟨a, b, xs, ys, ex, hqx, hqy, hlen, q⟩ := q1
  subst ex
  cases r1 with
  | cons r rr =>
    cases rr with
    | cons r' rr =>
      cases rr
      cases r
      cases r'
      obtain ⟨its, rv, p1, hz1⟩ := I1.list hqx
      obtain ⟨its2, rv2, p2, hz2⟩ := I1.list hqy
      have la : a < s1.heap.objs.size := p1.lt
      have lb : b < s1.heap.objs.size := p2.lt
      have l1 := rv.length
      have l2 := rv2.length
      rw [List.length_map] at l1
      refine call_zip_2 p1.isList p2.isList fun h' hz hTI hTO h1 h2 hsz hk => Calls.spliced_nil ?_
      have I2 : Inv X pins σ H1 { s1 with heap := h' } := I1.kept (t' := s1.toks) hk
      have n5 : min its.toArray.size its2.toArray.size = xs.length := by rw [List.size_toArray, List.size_toArray]; omega
      refine call_dict_pairs (knd := mixKind X.prog X.w) (kvs := (xs.map Sum.inr).zip its2) (PairArg.zip _ _ _ _ _ a b (PySem.W.ktu_apart s1.heap.objs.size a b la lb) its.toArray its2.toArray) (I2.ok.hd hc)
        ⟨hz, hTI, ⟨_, _, hTO⟩, h1, h2, p1.isList.at fun o e => hk _ o e, p2.isList.at fun o e => hk _ o e⟩ ⟨by rw [n5, List.length_zip, List.length_map]; omega, fun i key v ⟨e1, e2⟩ => ?_⟩ (by rw [n5]; have := hz1; rw [List.length_map] at this; exact this) fun h'' tk hd' hk2 => ?_
      · rw [List.getElem?_toArray] at e1 e2
        have hi : i < xs.length := by have := (List.getElem?_eq_some_iff.mp e1).1; omega
        obtain ⟨u, hu, ru⟩ := rv.get (i := i) (x := V.str xs[i]) (by rw [List.getElem?_map, List.getElem?_eq_getElem hi]; rfl)
        rw [e1] at hu
        cases hu
        refine ⟨.inr xs[i], ?_, kV_is (k := .inr xs[i]) ru⟩
        rw [List.getElem?_zip_eq_some]
        exact ⟨by rw [List.getElem?_map, List.getElem?_eq_getElem hi]; rfl, e2⟩
      · have hm3 : (h'.objs.size == sysModules) = false := beq_eq_false_iff_ne.mpr (Nat.ne_of_gt (by rw [hsz]; exact Nat.lt_of_lt_of_le I1.big (Nat.le_add_right _ _)))
        have hlk : (mergeK [] ((xs.map (Sum.inr : Str → Key)).zip ys)).length ≤ sizeLine := by
          have h3 := length_mergeK ((xs.map (Sum.inr : Str → Key)).zip ys) []
          rw [List.length_nil, Nat.zero_add, List.length_zip, List.length_map] at h3
          rw [List.length_map] at hz1
          omega
        have hge : s1.heap.objs.size ≤ h'.objs.size := by rw [hsz]; exact Nat.le_add_right _ _
        have hk3 : ∀ b o, s1.heap.get? b = some o → h''.get? b = some o := fun b o e => hk2 b o (fun hb => by
          have hlt := Heap.lt_size e
          simp only [List.mem_cons, List.not_mem_nil, or_false] at hb
          rcases hb with z | z | z | z
          · rw [z] at hlt; exact absurd hlt (Nat.not_lt.mpr (Nat.le_add_right _ _))
          · rw [z] at hlt; exact absurd hlt (Nat.not_lt.mpr (Nat.le_add_right _ _))
          · rw [z] at hlt; exact absurd hlt (Nat.lt_irrefl _)
          · rw [z] at hlt; exact absurd hlt (Nat.not_lt.mpr (Nat.le_add_right _ _))) (hk b o e)
        exact ⟨.ref h'.objs.size, upd H1 h'.objs.size (.dK (mergeK [] ((xs.map Sum.inr).zip ys))), I1.laid (t' := tk) hk3 hge (show ObjOk X.prog X.w _ _ _ (.dK (mergeK [] ((xs.map Sum.inr).zip ys))) from ⟨hlk, hm3, merged [] ((xs.map Sum.inr).zip its2), KV.merge (kv_zip rv2) .nil, hd'⟩), rfl, q _ (I1.hok.fresh hge)⟩
theorem s_dictzip {K : PySem.W.Frag} {σ : L2.St} {H : Hp} {Q : VK} (h : ta σ H fun vs H1 => ∃ (a b : Addr) (xs : List Str) (ys : List V), vs = [.ref a, .ref b] ∧ SqL K H1 a (xs.map V.str) ∧ SqL K H1 b ys ∧ xs.length = ys.length ∧
  ∀ p, H1 p = none → Q (.ref p) (upd H1 p (.dK (mergeK [] ((xs.map Sum.inr).zip ys))))) : tDictZip K ta σ H Q := h
end
/-- texts for texts -/
def mapOf (ps : List (Str × Str)) (n : Str) : Str := ((ps.find? fun p => decide (p.1 = n)).map (·.2)).getD (Str.ofString "")
def strsKv (ps : List (Str × Str)) : List (PyData × PyData) := ps.map fun p => (.str p.1, .str p.2)
def strsD (ps : List (Str × Str)) : PyData := .dict (strsKv ps)
theorem mapOf_mem : ∀ {ps : List (Str × Str)} {p : Str × Str}, (ps.map (·.1)).Nodup → p ∈ ps → mapOf ps p.1 = p.2
  | x :: r, p, nd, h => by
    rw [List.map_cons, List.nodup_cons] at nd
    rcases List.mem_cons.mp h with e | h
    · subst e; simp [mapOf]
    · have hne : ¬ x.1 = p.1 := fun e => nd.1 (by rw [e]; exact List.mem_map_of_mem h)
      have ih := mapOf_mem nd.2 h
      unfold mapOf at ih ⊢
      rw [List.find?_cons, decide_eq_false hne]
      exact ih
theorem zip_fst {α β : Type} : ∀ {xs : List α} {ys : List β}, xs.length = ys.length → (xs.zip ys).map (·.1) = xs
  | [], [], _ => rfl
  | x :: r, y :: t, h => by rw [List.zip_cons_cons, List.map_cons, zip_fst (by simpa using h)]
  | [], _ :: _, h => by cases h
  | _ :: _, [], h => by cases h
theorem zip_snd {α β : Type} : ∀ {xs : List α} {ys : List β}, xs.length = ys.length → (xs.zip ys).map (·.2) = ys
  | [], [], _ => rfl
  | x :: r, y :: t, h => by rw [List.zip_cons_cons, List.map_cons, zip_snd (by simpa using h)]
  | [], _ :: _, h => by cases h
  | _ :: _, [], h => by cases h
theorem map_mapOf {ps : List (Str × Str)} (nd : (ps.map (·.1)).Nodup) : (ps.map (·.1)).map (mapOf ps) = ps.map (·.2) := by
  rw [List.map_map]
  exact List.map_congr_left fun p hp => mapOf_mem nd hp
theorem imkv_zip {S : List Addr} {H : Hp} : ∀ {xs ns : List Str}, ImKv S H ((xs.map (Sum.inr : Str → Key)).zip (ns.map V.str)) (strsKv (xs.zip ns))
  | [], _ => .nil
  | _ :: _, [] => .nil
  | x :: r, n :: t => .cons (k := .inr x) (.str n) (imkv_zip (xs := r) (ns := t))
theorem look_strs : ∀ {ps : List (Str × Str)} {n : Str}, n ∈ ps.map (·.1) → lookD (strsKv ps) n = some (.str (mapOf ps n))
  | p :: r, n, h => by
    show (if p.1 = n then some (PyData.str p.2) else lookD (strsKv r) n) = _
    by_cases e : p.1 = n
    · rw [if_pos e]
      unfold mapOf
      rw [List.find?_cons, decide_eq_true e]; rfl
    · rw [if_neg e, look_strs (List.mem_of_ne_of_mem (fun z => e z.symm) (by rw [List.map_cons] at h; exact h))]
      unfold mapOf
      rw [List.find?_cons, decide_eq_false e]
/-- a dict of texts, read by a name -/
theorem strs_get {S : List Addr} {H : Hp} {ps : List (Str × Str)} {kvs : List (Key × V)} (ik : ImKv S H kvs (strsKv ps)) {n : Str} (h : n ∈ ps.map (·.1)) : valV kvs (.inr n) = some (.str (mapOf ps n)) := by
  rcases look_im (n := n) ik with ⟨e1, e2⟩ | ⟨v, d, e1, e2, j⟩
  · rw [look_strs h] at e2; cases e2
  · rw [look_strs h] at e2
    cases e2
    cases j
    exact e1
/-- arcs moved -/
def movedA (h turn : Int) (A : Arcs) (ps : List (Str × Str)) (zs : List Str) : Arcs := zs.map fun n => (mapOf ps n, ((arcOf A n).1 + turn) % h, (arcOf A n).2)
theorem moved_names (h turn : Int) (A : Arcs) (ps : List (Str × Str)) (zs : List Str) : (movedA h turn A ps zs).map (·.1) = zs.map (mapOf ps) := by
  unfold movedA
  rw [List.map_map]; rfl
theorem moved_ok {h turn : Int} {A : Arcs} {ps : List (Str × Str)} {zs : List Str} (ok : ArcsOk h A) (hh : 0 < h) (h1 : (ps.map (·.1)).Perm (A.map (·.1))) (h2 : (ps.map (·.2)).Nodup) (h3 : ∀ p ∈ ps, NameOk p.2) (pz : zs.Perm (A.map (·.1))) : ArcsOk h (movedA h turn A ps zs) := by
  have nd1 : (ps.map (·.1)).Nodup := h1.nodup_iff.mpr ok.nd
  have pn : (zs.map (mapOf ps)).Perm (ps.map (·.2)) := by
    rw [← map_mapOf nd1]
    exact (pz.trans h1.symm).map _
  refine ⟨fun a ha => ?_, ?_, fun a ha => ?_, fun a ha => ?_⟩
  · have : a.1 ∈ zs.map (mapOf ps) := by rw [← moved_names h turn A ps zs]; exact List.mem_map_of_mem ha
    obtain ⟨p, hp, e⟩ := List.mem_map.mp (pn.mem_iff.mp this)
    rw [← e]; exact h3 p hp
  · rw [moved_names]; exact pn.nodup_iff.mpr h2
  · obtain ⟨n, hn, rfl⟩ := List.mem_map.mp ha
    exact ⟨Int.emod_nonneg _ (by omega), Int.emod_lt_of_pos _ hh⟩
  · obtain ⟨n, hn, rfl⟩ := List.mem_map.mp ha
    obtain ⟨x, hx, rfl⟩ := List.mem_map.mp (pz.mem_iff.mp hn)
    show 1 ≤ (arcOf A x.1).2 ∧ (arcOf A x.1).2 ≤ h
    rw [arcOf_mem ok.nd hx]
    exact ok.ln x hx
theorem join3 {α β γ : Type} {G : Prop} (P C : α → β → γ → Prop) (h1 : (∀ a b c, P a b c → C a b c) → G) (h2 : ∀ a b c, P a b c → C a b c) : G := h1 h2
/-- a dict of arcs from its pairs -/
theorem s_dictArcs {S : List Addr} {H : Hp} {Q : VK} {K : PySem.W.Frag} {a : Addr} {vs : List V} {A : Arcs} (ra : Rd H a (.lst vs)) (im : ImAll S H vs ((kvsD A).map fun p => .tuple [p.1, p.2])) (nd : (A.map (·.1)).Nodup) (al : Al S H)
    (h : ∀ p H', H p = none → p ∉ S → Nx [] H H' → H' p ≠ none → Im S H' (.ref p) (arcsD A) → Q (.ref p) H') : rDictP K [.ref a] H Q := by
  refine s_dictP (S := S) ra im (fun p hp => ?_) ?_ al (fun o H6 kv6 no noS g6 eo ndo io => h o H6 no noS g6 (by rw [eo]; simp) (.dct noS (.inl eo) ndo io.tail))
  · unfold kvsD at hp
    obtain ⟨z, hz, rfl⟩ := List.mem_map.mp hp
    exact ⟨.inr _, rfl⟩
  · unfold kvsD
    rw [List.map_map]
    rw [show ((fun x : PyData × PyData => x.1) ∘ fun a : Str × Int × Int => (PyData.str a.1, arcD a.2)) = (PyData.str ∘ fun a => a.1) from rfl, ← List.map_map]
    exact (nodup_inj (f := PyData.str) (fun a b z => by injection z)).mpr nd
theorem arcs_pairs (A : Arcs) : ((kvsD A).map fun p => PyData.tuple [p.1, p.2]) = A.map fun a => PyData.tuple [.str a.1, arcD a.2] := by
  unfold kvsD
  rw [List.map_map]; rfl
/-- a list by its items, out of another -/
theorem map_get {α β : Type} {ds : List β} {xs : List α} {g : α → β} (hl : ds.length = xs.length) (h : ∀ (i : Nat) (x : α), xs[i]? = some x → ds[i]? = some (g x)) : ds = xs.map g := by
  refine List.ext_getElem? fun i => ?_
  by_cases hi : i < xs.length
  · rw [h i _ (List.getElem?_eq_getElem hi), List.getElem?_map, List.getElem?_eq_getElem hi]; rfl
  · rw [List.getElem?_eq_none (by omega), List.getElem?_eq_none (by simpa using hi)]
theorem gTup2_mono {K : PySem.W.Frag} {i j : Nat} (x : V) (σ : L2.St) (H : Hp) (Q Q' : L2.St → Hp → Prop) (h : ∀ σ2 H2, Q σ2 H2 → Q' σ2 H2) (q : gTup K 2 (gCons (gName i) (gCons (gName j) gNil)) x σ H Q) : gTup K 2 (gCons (gName i) (gCons (gName j) gNil)) x σ H Q' := by
  obtain ⟨a, xs, e1, e2, e3, v, r, e4, q⟩ := q
  obtain ⟨v2, r2, e5, q⟩ := q
  obtain ⟨e6, q⟩ := q
  exact ⟨a, xs, e1, e2, e3, v, r, e4, v2, r2, e5, e6, h _ _ q⟩
/-- pairs within their bounds -/
def PairsOk (h : Int) (ws : List (Int × Int)) : Prop := ∀ w ∈ ws, (0 ≤ w.1 ∧ w.1 < h) ∧ (1 ≤ w.2 ∧ w.2 ≤ h)
theorem zip_ok {h : Int} {xs : List Str} {ws : List (Int × Int)} (hl : xs.length = ws.length) (hn : ∀ x ∈ xs, NameOk x) (nd : xs.Nodup) (hw : PairsOk h ws) : ArcsOk h (xs.zip ws) :=
  ⟨fun a ha => hn _ (List.of_mem_zip ha).1, by rw [zip_fst hl]; exact nd, fun a ha => (hw _ (List.of_mem_zip ha).2).1, fun a ha => (hw _ (List.of_mem_zip ha).2).2⟩
theorem all_map {α β : Type} {f : α → β} {P : α → Prop} : ∀ {ds : List β}, (∀ d ∈ ds, ∃ w, d = f w ∧ P w) → ∃ ws : List α, ds = ws.map f ∧ ∀ w ∈ ws, P w
  | [], _ => ⟨[], rfl, by simp⟩
  | d :: r, h => by
    obtain ⟨w, rfl, hw⟩ := h d List.mem_cons_self
    obtain ⟨ws, rfl, hr⟩ := all_map (ds := r) fun x hx => h x (List.mem_cons_of_mem _ hx)
    exact ⟨w :: ws, rfl, fun x hx => (List.mem_cons.mp hx).elim (fun e => by rw [e]; exact hw) (hr x)⟩
/-- told by index, told by member -/
theorem by_mem {β : Type} {ds : List β} {n : Nat} {P : β → Prop} (hl : ds.length = n) (h : ∀ i, i < n → ∃ d, ds[i]? = some d ∧ P d) : ∀ d ∈ ds, P d := fun d hd => by
  obtain ⟨i, hi, e⟩ := List.mem_iff_getElem.mp hd
  obtain ⟨d', e', p⟩ := h i (by omega)
  rw [List.getElem?_eq_getElem hi, e] at e'
  injection e' with e'
  rw [e']; exact p
end RG

/-! repr of data -/
namespace RG
open PySem PySem.Spec PyProof.Rows L2
mutual
def okR : PyData → Bool
  | .none | .bool _ => true
  | .int i => decide (i = 0)
  | .str x => x.cps.toList.all fun c => decide (c < 16 ^ 8)
  | .list xs | .tuple xs => okRAll xs
  | .dict kvs => okRKv kvs
def okRAll : List PyData → Bool
  | [] => true
  | x :: xs => okR x && okRAll xs
def okRKv : List (PyData × PyData) → Bool
  | [] => true
  | (k, v) :: r => okR k && okR v && okRKv r
end
mutual
def rl : PyData → Nat
  | .none | .bool _ | .int _ => 5
  | .str x => 10 * x.length + 2
  | .list xs | .tuple xs => rlAll xs + 3
  | .dict kvs => rlKv kvs + 3
def rlAll : List PyData → Nat
  | [] => 0
  | x :: xs => rl x + 2 + rlAll xs
def rlKv : List (PyData × PyData) → Nat
  | [] => 0
  | (k, v) :: r => rl k + rl v + 4 + rlKv r
end
theorem listText_len : ∀ (ts : List Str), (listText ts).length ≤ piled ts + 3 := by
  have key : ∀ (ts : List Str) (k : Nat) (acc : Str), (textFrom k acc ts).length ≤ acc.length + piled ts := by
    intro ts
    induction ts with
    | nil => intro k acc; exact Nat.le_add_right _ _
    | cons t r ih =>
      intro k acc
      have h := ih (k + 1) (acc ++ (if k > 0 then ", " else "" : String) ++ t)
      have e : (acc ++ (if k > 0 then ", " else "" : String) ++ t).length ≤ acc.length + 2 + t.length := by
        rw [strLen_append, strLen_append]
        have : ((if k > 0 then ", " else "" : String) : Str).length ≤ 2 := by split <;> decide +kernel
        omega
      rw [piled_cons]
      show (textFrom (k + 1) _ r).length ≤ _
      omega
  intro ts
  unfold listText
  rw [strLen_append]
  have h := key ts 0 "["
  have e1 : (("[" : String) : Str).length = 1 := rfl
  have e2 : (("]" : String) : Str).length = 1 := rfl
  omega
theorem dictText_len (ts : List Str) : (dictText ts).length ≤ piled ts + 3 := by
  unfold dictText
  rw [strLen_append, strLen_append]
  have e1 : (("{" : String) : Str).length = 1 := rfl
  have e2 : (("}" : String) : Str).length = 1 := rfl
  by_cases h : ts = []
  · subst h
    have : (Str.join ", " ([] : List Str)).length = 0 := rfl
    omega
  · have := join_length_add ts h
    omega
mutual
theorem shown_len : ∀ d : PyData, okR d = true → d.shown.length ≤ rl d
  | .none, _ => by rw [PyData.shown, rl]; decide +kernel
  | .bool b, _ => by rw [PyData.shown, rl]; cases b <;> decide +kernel
  | .int i, h => by
    have : i = 0 := of_decide_eq_true h
    subst this
    rw [PyData.shown, rl]; decide +kernel
  | .str x, h => by
    rw [PyData.shown, rl]
    exact StrLaws.reprText_len x fun c hc => of_decide_eq_true (List.all_eq_true.mp h c hc)
  | .list xs, h => by
    rw [PyData.shown, rl]
    have h1 := listText_len (PyData.shownAll xs)
    have h2 := shownAll_len xs h
    omega
  | .tuple xs, h => by
    rw [PyData.shown, rl]
    have h1 := fmt_text (PyData.shownAll xs)
    have h2 := shownAll_len xs h
    omega
  | .dict kvs, h => by
    rw [PyData.shown, rl]
    have h1 := dictText_len (PyData.shownKv kvs)
    have h2 := shownKv_len kvs h
    omega
theorem shownAll_len : ∀ xs : List PyData, okRAll xs = true → piled (PyData.shownAll xs) ≤ rlAll xs
  | [], _ => Nat.zero_le _
  | x :: r, h => by
    rw [okRAll, Bool.and_eq_true] at h
    rw [PyData.shownAll, piled_cons, rlAll]
    have h1 := shown_len x h.1
    have h2 := shownAll_len r h.2
    omega
theorem shownKv_len : ∀ xs : List (PyData × PyData), okRKv xs = true → piled (PyData.shownKv xs) ≤ rlKv xs
  | [], _ => Nat.zero_le _
  | (k, v) :: r, h => by
    rw [okRKv, Bool.and_eq_true, Bool.and_eq_true] at h
    rw [PyData.shownKv, piled_cons, rlKv, strLen_append, strLen_append]
    have h1 := shown_len k h.1.1
    have h2 := shown_len v h.1.2
    have h3 := shownKv_len r h.2
    have e : ((": " : String) : Str).length = 2 := rfl
    omega
end
mutual
theorem okR_showable : ∀ d : PyData, okR d = true → d.showable = true
  | .none, _ => by rw [PyData.showable]
  | .bool b, _ => by rw [PyData.showable]
  | .int i, h => by
    have : i = 0 := of_decide_eq_true h
    subst this
    rfl
  | .str x, h => by rw [PyData.showable]
  | .list xs, h => by rw [PyData.showable]; exact okRAll_showable xs h
  | .tuple xs, h => by rw [PyData.showable]; exact okRAll_showable xs h
  | .dict kvs, h => by rw [PyData.showable]; exact okRKv_showable kvs h
theorem okRAll_showable : ∀ xs : List PyData, okRAll xs = true → PyData.showableAll xs = true
  | [], _ => by rw [PyData.showableAll]
  | x :: r, h => by
    rw [okRAll, Bool.and_eq_true] at h
    rw [PyData.showableAll, okR_showable x h.1, okRAll_showable r h.2]; rfl
theorem okRKv_showable : ∀ xs : List (PyData × PyData), okRKv xs = true → PyData.showableKv xs = true
  | [], _ => by rw [PyData.showableKv]
  | (k, v) :: r, h => by
    rw [okRKv, Bool.and_eq_true, Bool.and_eq_true] at h
    rw [PyData.showableKv, okR_showable k h.1.1, okR_showable v h.1.2, okRKv_showable r h.2]; rfl
end
section
variable {X : Cx} {pins : List (Addr × Obj)} {σ : L2.St} {H : Hp} {s : Shared} {S : List Addr}
theorem pairs_keys {P : Program} {w : World} {h : Heap} : ∀ {es : List DictEntry} {kvs : List (Key × V)} {vs : List (Key × Value)} {ds : List (PyData × PyData)}, KV kvs vs → Pairs (mixKind P w) es vs → ImKv S H kvs ds → ReadsAll h (es.map (·.key)) (ds.map (·.1)) []
  | _, _, _, _, .nil, .nil, .nil => .nil
  | _, _, _, _, .cons (a := (k, v)) r t, .cons e1 e2 p, .cons i t2 => by
    obtain ⟨r1, r2⟩ := r
    dsimp only at r1
    have ih := pairs_keys (h := h) t p t2
    rw [← r1] at e1
    rcases keyIs_shape (show keyIs k _ = true from e1) with ⟨j, u, rfl, e⟩ | ⟨x, u, rfl, e⟩
    · rw [List.map_cons, List.map_cons, e]
      exact .cons (.int j u) ih
    · rw [List.map_cons, List.map_cons, e]
      exact .cons (.str x u) ih
mutual
theorem Im.reads (I : Inv X pins σ H s) : ∀ (d : PyData) {v : V} {u : Value}, Im S H v d → RelV v u → ∃ as, Reads s.heap u d as ∧ ∀ a ∈ as, H a ≠ none
  | .none, _, _, h, r => by cases h; cases r; exact ⟨_, .none, by simp⟩
  | .bool b, _, _, h, r => by cases h; cases r; exact ⟨_, .bool b, by simp⟩
  | .int i, _, _, h, r => by cases h; obtain ⟨t, rfl⟩ := r; exact ⟨_, .int i t, by simp⟩
  | .str x, _, _, h, r => by cases h; obtain ⟨t, rfl⟩ := r; exact ⟨_, .str x t, by simp⟩
  | .list ds, _, _, h, r => by
    cases h with
    | lst n rd im =>
      cases r
      obtain ⟨its, rv, ⟨o, n2, ho, hc, _, hd⟩, _⟩ := I.list (.inl rd)
      obtain ⟨as, hr, hn⟩ := ImAll.reads I ds im rv
      exact ⟨_, .list ho hc hd (by simpa using hr), fun a ha => (List.mem_cons.mp ha).elim (fun z => by rw [z]; exact rd_some rd) (hn a)⟩
  | .tuple ds, _, _, h, r => by
    cases h with
    | tup n rd im =>
      cases r
      obtain ⟨its, rv, ⟨o, ho, hc, n2, hd⟩, _⟩ := I.tuple (.inl rd)
      obtain ⟨as, hr, hn⟩ := ImAll.reads I ds im rv
      exact ⟨_, .tuple ho hc hd (by simpa using hr), hn⟩
  | .dict ds, _, _, h, r => by
    cases h with
    | dct n rd nd im =>
      cases r
      obtain ⟨hz, hsy, vs, kv, dd⟩ := dk_rd I.hok rd
      obtain ⟨o, es, ep, ho, hx, hd, _, pr, _⟩ := dd
      have hk := pairs_keys (h := s.heap) kv pr im
      obtain ⟨bs, hv, hb⟩ := ImKv.reads I ds kv pr im
      exact ⟨_, .dict ho hx.1 hd hk hv, fun a ha => by
        rcases List.mem_append.mp ha with h1 | h1
        · rw [List.mem_singleton.mp h1]; exact rd_some rd
        · exact hb a h1⟩
theorem ImAll.reads (I : Inv X pins σ H s) : ∀ (ds : List PyData) {vs : List V} {us : List Value}, ImAll S H vs ds → Vals vs us → ∃ as, ReadsAll s.heap us ds as ∧ ∀ a ∈ as, H a ≠ none
  | [], _, _, h, r => by cases h; cases r; exact ⟨_, .nil, by simp⟩
  | d :: ds, _, _, h, r => by
    cases h with
    | cons h1 h2 =>
      cases r with
      | cons r1 r2 =>
        obtain ⟨as, q1, n1⟩ := Im.reads I d h1 r1
        obtain ⟨bs, q2, n2⟩ := ImAll.reads I ds h2 r2
        exact ⟨_, .cons q1 q2, fun a ha => (List.mem_append.mp ha).elim (n1 a) (n2 a)⟩
theorem ImKv.reads (I : Inv X pins σ H s) : ∀ (ds : List (PyData × PyData)) {es : List DictEntry} {kvs : List (Key × V)} {vs : List (Key × Value)}, KV kvs vs → Pairs (mixKind X.prog X.w) es vs → ImKv S H kvs ds → ∃ as, ReadsAll s.heap (es.map (·.val)) (ds.map (·.2)) as ∧ ∀ a ∈ as, H a ≠ none
  | [], _, _, _, r, p, h => by
    cases h
    cases r
    cases p
    exact ⟨_, .nil, by simp⟩
  | (k, d) :: ds, _, _, _, r, p, h => by
    cases h with
    | cons h1 h2 =>
      cases r with
      | cons r1 r2 =>
        cases p with
        | cons e1 e2 p2 =>
          obtain ⟨as, q1, n1⟩ := Im.reads I d h1 r1.2
          obtain ⟨bs, q2, n2⟩ := ImKv.reads I ds r2 p2 h2
          refine ⟨_, ?_, fun a ha => (List.mem_append.mp ha).elim (n1 a) (n2 a)⟩
          rw [List.map_cons, List.map_cons, e2]
          exact .cons q1 q2
end
end
section
variable {X : Cx} {k : Nat}
def rRepr : List V → Hp → VK → Prop := fun xs H Q => ∃ (v : V) (S : List Addr) (d : PyData), xs = [v] ∧ Im S H v d ∧ okR d = true ∧ rl d ≤ 1000000 ∧ d.depth ≤ 150 ∧ Q (.str d.shown) H
theorem kreprD (hr : Room k X.A) (hg : X.A.guards = some []) (hs : ∃ o, X.K.lookup sysModules = some o) : CallR X (.builtin "repr") rRepr := by
  intro pins s σ H xs us Q I r h
  obtain ⟨v, S, d, rfl, im, ok, hl, hd, q⟩ := h
  obtain ⟨u, rfl, ru⟩ := vals1 r
  have hu := hr.un
  have hz : d.shown.length ≤ sizeLine := Nat.le_trans (Nat.le_trans (shown_len d ok) hl) (by decide)
  have hS : H sysModules = none := by
    obtain ⟨o, e⟩ := hs
    exact (I.bs _ _ (I.ok.mod.kin _ _ e)).2
  have big : ∀ a, v = .ref a → wpAny (model X.prog X.w) X.A (call (.builtin "repr") [u]) (EP X pins σ Q) X.xe s := fun a ea => by
    subst ea
    obtain rfl : u = Value.ref a := ru
    obtain ⟨as, rd, hn⟩ := im.reads I d rfl
    exact repr_of_reads' rd (okR_showable d ok) (fun _ hm => hn _ hm hS) hg (by omega) (fun _ _ e => e) (fun h' u tk hk => ⟨.str d.shown, H, I.kept (t' := tk) hk, ⟨_, rfl⟩, q⟩) hz
  cases im with
  | non =>
    cases ru
    exact PySem.P.repr_of_none ⟨.str _, H, I.tok _, ⟨_, rfl⟩, q⟩
  | bl b =>
    cases ru
    exact PySem.P.repr_of_bool ⟨.str _, H, I.tok _, ⟨_, rfl⟩, q⟩
  | int i =>
    obtain ⟨t, rfl⟩ := ru
    have : i = 0 := of_decide_eq_true ok
    subst this
    exact PySem.P.repr_of_int (by decide) ⟨.str _, H, I.tok _, ⟨_, rfl⟩, q⟩
  | str x =>
    obtain ⟨t, rfl⟩ := ru
    exact PySem.P.repr_of_str ⟨.str _, H, I.tok _, ⟨_, rfl⟩, q⟩ hz
  | lst => exact big _ rfl
  | tup => exact big _ rfl
  | dct => exact big _ rfl
end
end RG

/-! small data: dicts from names to small things -/
namespace RG
open PySem PySem.Spec PyProof.Rows L2
/-- a datum that may be shown, told and compared -/
structure Okd (d : PyData) : Prop where
  ok : okR d = true
  rl : rl d ≤ 100000
  dp : d.depth ≤ 20
  sm : sm d = true
/-- a value within such a dict -/
structure Okv (d : PyData) : Prop where
  ok : okR d = true
  rl : rl d ≤ 500
  dp : d.depth ≤ 8
  sm : sm d = true
def Ent (p : PyData × PyData) : Prop := ∃ x : Str, p.1 = .str x ∧ x.length ≤ 8 ∧ okR (.str x) = true ∧ Okv p.2
theorem ents_kv : ∀ {ds : List (PyData × PyData)}, (∀ p ∈ ds, Ent p) → okRKv ds = true ∧ rlKv ds ≤ 586 * ds.length ∧ PyData.depthKv ds ≤ 8 ∧ smKv ds = true
  | [], _ => ⟨rfl, Nat.zero_le _, Nat.zero_le _, rfl⟩
  | (k, v) :: r, h => by
    obtain ⟨x, e, hl, ox, o⟩ := h (k, v) List.mem_cons_self
    dsimp only at e
    subst e
    obtain ⟨h1, h2, h3, h4⟩ := ents_kv (ds := r) fun p hp => h p (List.mem_cons_of_mem _ hp)
    have o1 := o.rl
    have o2 := o.dp
    dsimp only at o1 o2
    refine ⟨by rw [okRKv, ox, o.ok, h1]; rfl, ?_, ?_, ?_⟩
    · rw [rlKv, rl, List.length_cons]; omega
    · rw [PyData.depthKv, PyData.depth]; omega
    · rw [smKv, o.sm, h4, sm, decide_eq_true (show x.length ≤ 1000 by omega)]; rfl
theorem ents_ok {ds : List (PyData × PyData)} (h : ∀ p ∈ ds, Ent p) (hl : ds.length ≤ 60) : Okd (.dict ds) := by
  obtain ⟨h1, h2, h3, h4⟩ := ents_kv h
  refine ⟨h1, ?_, ?_, ?_⟩
  · rw [rl]; omega
  · rw [PyData.depth]; omega
  · rw [sm, h4, decide_eq_true (show ds.length ≤ 1000 by omega)]; rfl
theorem items_ok {ds : List (PyData × PyData)} (h : ∀ p ∈ ds, Ent p) (hl : ds.length ≤ 60) : Okd (itemsD ds) := by
  have key : ∀ ds : List (PyData × PyData), (∀ p ∈ ds, Ent p) → okRAll (ds.map fun p => PyData.tuple [p.1, p.2]) = true ∧ rlAll (ds.map fun p => PyData.tuple [p.1, p.2]) ≤ 700 * ds.length ∧ PyData.depthAll (ds.map fun p => PyData.tuple [p.1, p.2]) ≤ 9 := by
    intro ds
    induction ds with
    | nil => intro _; exact ⟨rfl, Nat.zero_le _, Nat.zero_le _⟩
    | cons p r ih =>
      intro h
      obtain ⟨k, v⟩ := p
      obtain ⟨x, e, hl, ox, o⟩ := h (k, v) List.mem_cons_self
      dsimp only at e
      subst e
      obtain ⟨h1, h2, h3⟩ := ih fun p hp => h p (List.mem_cons_of_mem _ hp)
      have o1 := o.rl
      have o2 := o.dp
      dsimp only at o1 o2
      refine ⟨?_, ?_, ?_⟩
      · rw [List.map_cons, okRAll, h1, okR, okRAll, okRAll, okRAll, o.ok, ox]; rfl
      · rw [List.map_cons, rlAll, rl, rlAll, rlAll, rlAll, rl, List.length_cons]; dsimp only; omega
      · rw [List.map_cons, PyData.depthAll, PyData.depth, PyData.depthAll, PyData.depthAll, PyData.depthAll, PyData.depth]; dsimp only; omega
  obtain ⟨h1, h2, h3⟩ := key ds h
  obtain ⟨_, _, _, h4⟩ := ents_kv h
  unfold itemsD
  refine ⟨h1, ?_, ?_, ?_⟩
  · rw [rl]; omega
  · rw [PyData.depth]; omega
  · rw [sm, sm_items ds h4, List.length_map, decide_eq_true (show ds.length ≤ 1000 by omega)]; rfl
theorem nm_okR {x : Str} (h : NameOk x) : okR (.str x) = true := List.all_eq_true.mpr fun c hc => decide_eq_true (Nat.lt_of_lt_of_le ((by decide : ∀ c ∈ sigC, c < 1000) c (h.all c hc)) (by decide))
theorem nm_okv {x : Str} (h : NameOk x) : Okv (.str x) := ⟨nm_okR h, by rw [rl]; have := h.hi; omega, by rw [PyData.depth]; omega, by rw [sm]; exact decide_eq_true (nm_len h)⟩
theorem strs_ent {ps : List (Str × Str)} (h1 : ∀ p ∈ ps, NameOk p.1) (h2 : ∀ p ∈ ps, NameOk p.2) : ∀ p ∈ strsKv ps, Ent p := fun p hp => by
  unfold strsKv at hp
  obtain ⟨q, hq, rfl⟩ := List.mem_map.mp hp
  exact ⟨q.1, rfl, (h1 q hq).hi, nm_okR (h1 q hq), nm_okv (h2 q hq)⟩
/-- an entry taken out -/
theorem ImKv.dropK {S : List Addr} {H : Hp} {k : Key} : ∀ {kvs : List (Key × V)} {ds : List (PyData × PyData)}, ImKv S H kvs ds → ∃ ds', ImKv S H (L2.dropK kvs k) ds' ∧ (∀ p ∈ ds', p ∈ ds) ∧ ds'.length ≤ ds.length
  | _, _, .nil => ⟨[], .nil, fun _ h => h, Nat.le_refl _⟩
  | _, _, .cons (k := k1) (v := v) (d := d) a t => by
    obtain ⟨ds', h1, h2, h3⟩ := ImKv.dropK (k := k) t
    by_cases e : k1 = k
    · refine ⟨ds', ?_, fun p hp => List.mem_cons_of_mem _ (h2 p hp), Nat.le_succ_of_le h3⟩
      rw [dropK_pos (p := (k1, v)) e]; exact h1
    · refine ⟨(RG.kD k1, d) :: ds', ?_, fun p hp => ?_, Nat.succ_le_succ h3⟩
      · rw [dropK_neg (p := (k1, v)) e]; exact .cons a h1
      · rcases List.mem_cons.mp hp with z | z
        · rw [z]; exact List.mem_cons_self
        · exact List.mem_cons_of_mem _ (h2 p z)
theorem mapK {S : List Addr} {H : Hp} {k : Key} {v : V} {d : PyData} (hv : Im S H v d) : ∀ {kvs : List (Key × V)} {ds : List (PyData × PyData)}, ImKv S H kvs ds → ∃ ds', ImKv S H (kvs.map fun kv => if kv.1 = k then (kv.1, v) else kv) ds' ∧ (∀ p ∈ ds', p ∈ ds ∨ p = (RG.kD k, d)) ∧ ds'.length = ds.length
  | _, _, .nil => ⟨[], .nil, fun _ h => .inl h, rfl⟩
  | _, _, .cons (k := k1) (v := v1) (d := d1) a t => by
    obtain ⟨ds', h1, h2, h3⟩ := mapK hv t
    by_cases e : k1 = k
    · refine ⟨(RG.kD k1, d) :: ds', ?_, fun p hp => ?_, by rw [List.length_cons, List.length_cons, h3]⟩
      · rw [List.map_cons, if_pos e]; exact .cons hv h1
      · rcases List.mem_cons.mp hp with z | z
        · exact .inr (by rw [z, e])
        · exact (h2 p z).imp (List.mem_cons_of_mem _) id
    · refine ⟨(RG.kD k1, d1) :: ds', ?_, fun p hp => ?_, by rw [List.length_cons, List.length_cons, h3]⟩
      · rw [List.map_cons, if_neg e]; exact .cons a h1
      · rcases List.mem_cons.mp hp with z | z
        · exact .inl (by rw [z]; exact List.mem_cons_self)
        · exact (h2 p z).imp (List.mem_cons_of_mem _) id
theorem ImKv.putK {S : List Addr} {H : Hp} {k : Key} {v : V} {d : PyData} {kvs : List (Key × V)} {ds : List (PyData × PyData)} (ik : ImKv S H kvs ds) (hv : Im S H v d) (nd : (kvs.map (·.1)).Nodup) :
    ∃ ds', ImKv S H (L2.putK kvs k v) ds' ∧ (∀ p ∈ ds', p ∈ ds ∨ p = (RG.kD k, d)) ∧ ds'.length ≤ ds.length + 1 ∧ ((L2.putK kvs k v).map (·.1)).Nodup := by
  by_cases h : k ∈ kvs.map (·.1)
  · have e : L2.putK kvs k v = kvs.map fun kv => if kv.1 = k then (kv.1, v) else kv := by
      unfold L2.putK
      rw [if_pos]
      obtain ⟨p, hp, e⟩ := List.mem_map.mp h
      exact List.any_eq_true.mpr ⟨p, hp, decide_eq_true e⟩
    obtain ⟨ds', h1, h2, h3⟩ := mapK (k := k) hv ik
    rw [e]
    refine ⟨ds', h1, h2, by omega, ?_⟩
    have : (kvs.map fun kv => if kv.1 = k then (kv.1, v) else kv).map (·.1) = kvs.map (·.1) := by
      rw [List.map_map]
      refine List.map_congr_left fun p _ => ?_
      show (if p.1 = k then (p.1, v) else p).1 = p.1
      split <;> rfl
    rw [this]; exact nd
  · rw [RG.putK_new h]
    refine ⟨ds ++ [(RG.kD k, d)], ik.snoc hv, fun p hp => (List.mem_append.mp hp).imp id (fun z => by simpa using z), by rw [List.length_append]; exact Nat.le_refl _, ?_⟩
    rw [List.map_append]
    exact List.nodup_append.mpr ⟨nd, by simp, fun x hx y hy z => h (by
      have hy' : y = k := by simpa using hy
      rw [← hy', ← z]; exact hx)⟩
theorem ImAll.mem {S : List Addr} {H : Hp} : ∀ {vs : List V} {ds : List PyData}, ImAll S H vs ds → ∀ {v : V}, v ∈ vs → ∃ d ∈ ds, Im S H v d
  | _, _, .cons a t, v, h => by
    rcases List.mem_cons.mp h with e | h
    · rw [e]; exact ⟨_, List.mem_cons_self, a⟩
    · obtain ⟨d, hd, i⟩ := ImAll.mem t h
      exact ⟨d, List.mem_cons_of_mem _ hd, i⟩
theorem join0 {A G : Prop} (h1 : A → G) (h2 : A) : G := h1 h2
theorem okd_leaf {d : PyData} (h1 : okR d = true) (h2 : rl d ≤ 100) (h3 : d.depth ≤ 3) (h4 : sm d = true) : Okd d := ⟨h1, by omega, by omega, h4⟩
theorem okv_leaf {d : PyData} (h1 : okR d = true) (h2 : rl d ≤ 100) (h3 : d.depth ≤ 3) (h4 : sm d = true) : Okv d := ⟨h1, by omega, by omega, h4⟩
theorem s_disp {trs : List (TE × TE)} {σ : L2.St} {H : Hp} {Q : VK} (h : ∀ p, H p = none → tPairs trs σ (upd H p (.dK [])) fun ps H2 => H2 p = some (.dK []) ∧ ∃ kvs : List (Key × V), ps = kvs.map (fun kv => (kV kv.1, kv.2)) ∧ kvs.length ≤ 15 ∧ Q (.ref p) (upd H2 p (.dK (mergeK [] kvs)))) : tDisp trs σ H Q := h
theorem s_tp1 {tk tv : TE} {σ : L2.St} {H : Hp} {Q : List (V × V) → Hp → Prop} (h : tk σ H fun x H1 => tv σ H1 fun y H2 => Q [(x, y)] H2) : tPairs [(tk, tv)] σ H Q := h
theorem s_tp2 {tk tv tk2 tv2 : TE} {σ : L2.St} {H : Hp} {Q : List (V × V) → Hp → Prop} (h : tk σ H fun x H1 => tv σ H1 fun y H2 => tk2 σ H2 fun x2 H3 => tv2 σ H3 fun y2 H4 => Q [(x, y), (x2, y2)] H4) : tPairs [(tk, tv), (tk2, tv2)] σ H Q := h
theorem mapOf_ok {ps : List (Str × Str)} (h2 : ∀ p ∈ ps, NameOk p.2) (nd : (ps.map (·.1)).Nodup) {n : Str} (h : n ∈ ps.map (·.1)) : NameOk (mapOf ps n) := by
  obtain ⟨p, hp, rfl⟩ := List.mem_map.mp h
  rw [mapOf_mem nd hp]; exact h2 p hp
end RG

/-! an own error whose __init__ says super().__init__(a text) and keeps one field -/
namespace RG
open PySem PySem.Spec PyProof.Rows L2 PySem.Calls
/-- what the written part says of the class at C and of its __init__ at fI -/
structure ExF (P : Program) (K : PySem.W.Frag) (C fI : Addr) (fld qual : Str) (params : Arguments) (body : List Stmt) (scope : Scope) : Prop where
  O : OexC K C
  noF : PySem.W.findIn K (.ref C) fld = some none
  iC : PySem.W.findIn K (.ref C) "__init__" = some (some (.ref fI))
  tI : PySem.W.typeIn K (.ref fI) = some (.type "function")
  fn : ∃ (oc doc pm ct : Value) (od : Option Addr) (an : Option Addr) (cc cda : Addr) (osl : Array (Option Value)),
    K.lookup fI = some ⟨oc, od, .func (PySem.W.ksFn "__init__" qual params body scope .none .none doc pm an (.ref cda) ct cc), osl⟩ ∧ PySem.W.codeIn K (.ref cda) qual = true ∧
    (∃ ccl ccd csl, K.lookup cc = some ⟨ccl, ccd, .cell (some (.ref C)), csl⟩) ∧ ∃ ccl cdd vs ccs file tf, K.lookup cda = some ⟨ccl, cdd, .fields vs, ccs⟩ ∧ vs[2]? = some (.str file tf) ∧ ((P.main.file : Str) == file) = true
  mro : PySem.W.mroIn K C (.ref C) = some true
  sup : PySem.W.ks_superIn K C C "__init__" = some (some (.builtin "ValueError.__init__"))
  sub : PySem.W.subIn K (.ref C) (.type "ValueError") = some true
  ga : PySem.W.findIn K (.ref C) "__getattribute__" = some (some (.builtin "BaseException.__getattribute__"))
  gg : PySem.W.findIn K (.ref C) "__getattr__" = some none
  hdC : PySem.W.hasDictIn K C = true
  te : PySem.W.exmOne K (.ref C) (.ref C) = some true
  opq : PySem.W.nsIn K cStatics "thirdparty.any" = some none
def spSup (C : Addr) (fld : Str) : Sp := fun vs H Q _ => ∃ (a : Addr) (v : V), vs = [.ref a, v] ∧ H a = some (exo a C none) ∧ ∀ dx, H dx = none → dx ≠ a → Q .non (upd (upd H dx (exd dx [(fld, v)])) a (exo a C (some dx)))
/-- the wrapper of ValueError.__init__, called -/
theorem call_vw {prog : Program} {w : World} {A : Around} {E : Value → Shared → Prop} {s : Shared} {nm q : Str} {C N : Addr} {bs bm : List Value} {hdct : Bool} {sn : List Str} {sub : List Value} {ab : Bool} {col : Option Bool} {dd : Option Addr} {k0 k1 k2 k3 k5 : Option Value}
    {u e t0 : Addr} {rest : List Value} {Q : Value → Shared → Prop} (hC : s.heap.get? C = some (excClassObj nm q C N bs bm hdct sn sub ab col dd k0 k1 k2 k3 k5 "ValueError.__new__")) (he : s.heap.get? e = some (PySem.W.excObj C t0 none .none))
    (hu : s.heap.get? u = some (PySem.W.kxs_mw "ValueError.__init__" e)) (hz : rest.length ≤ sizeLine) (hq : ∀ h' t1, (∀ b o, b ≠ e → s.heap.get? b = some o → h'.get? b = some o) → h'.get? e = some (PySem.W.excObj C t1 none .none) → Q .none { s with heap := h' }) :
    wpAny (model prog w) A (call (.ref u) rest) Q E s := by
  obtain ⟨hh, gg, dr, tk, os⟩ := s
  refine wpAny_call (codeAny_of_tree ?_)
  show wpAny _ A.in1 (callAny (.ref u) ⟨rest, []⟩) _ _ _
  simp only [callAny]
  refine wpAny_bind (wpAny_load hu ?_)
  simp only [PySem.W.kxs_mw, show (Value.type "method-wrapper" == Value.type "method" || Value.type "method-wrapper" == Value.type "builtin_function_or_method" || Value.type "method-wrapper" == Value.type "method-wrapper") = true by decide, if_true]
  refine PySem.W.KFB.if_so (by decide) ?_
  refine wpAny_bind (PySem.W.check_bound_init F.excBase_ValueError.toExcCallFacts hC he rfl ?_)
  refine wpAny_bind (wpAny_pure (wpAny_pure ?_))
  refine ⟨plainId_quiet F.excBase_ValueError.init.plain _, codeAny_builtin F.excBase_ValueError.initEntry ?_⟩
  exact PySem.W.exc_init_tree (cls := .ref C) (t0 := t0) (dv := none) (c2 := .none) (c3 := .none) (b4 := .bool false) he hz fun h' k1 k2 _ => hq h' _ k1 k2
section
variable {P : Program} {w : World} {K : PySem.W.Frag} {mg : Str → Option Value} {base : Heap} {C fI : Addr} {fld qual : Str} {params : Arguments} {body : List Stmt} {scope : Scope} {CX : CXT} {k : Nat}
theorem ok_sup (F : ExF P K C fI fld qual params body scope) (hS : mg "super" = none)
    {p0 p1 p2 p3 p4 p5 q1 q2 q3 q4 : Pos} {tx : Str} {kd : Nat} {ar : Arg}
    (hbody : body = [.Expr (.Call (.Attribute (.Call (.Name "super" p0) [] [] p1) "__init__" p2) [.Constant (.str tx) kd p3] [] p4) p5, .Assign [.Attribute (.Name "self" q1) fld q2] (.Name fld q3) q4])
    (hsc : scope.kind = .function) (hco : scope.isCoroutine = false) (hgen : scope.isGenerator = false) (hks : scope.names.lookup ("super" : Str) = some .globalImplicit) (hkc : scope.names.lookup ("__class__" : Str) = some .free) (hls : scope.names.lookup ("self" : Str) = some .local) (hlf : scope.names.lookup fld = some .local)
    (hcell : ∀ x ∈ scope.names, x.2 ≠ .cell) (hfree : ∀ x, scope.names.lookup x = some .free → x = "__class__") (har : (params.posonlyargs ++ params.args).head? = some ar) (harn : ar.arg = "self") (hne : fld ≠ "self") (hdn : (fld == ("__debug__" : Str)) = false) (hdc : (fld == ("__classdict__" : Str)) = false)
    (hcall : ∀ env : Env, ∃ pl, eval (.Call (.Attribute (.Call (.Name "super" p0) [] [] p1) "__init__" p2) [.Constant (.str tx) kd p3] [] p4) env = (do
      let ov ← attributeBase (.Call (.Name "super" p0) [] [] p1) "__init__" env (eval (.Call (.Name "super" p0) [] [] p1) env)
      standAt p2.atName
      let (f, first) ← holding [ov] (getMethod ov "__init__" pl)
      callWith p4 f first (backTo p4 (starEach [.Constant (.str tx) kd p3] env)) []))
    (hint : ∀ L f cd cc, interactive (PySem.W.ksEnv qual scope L f cd cc) = false)
    (hsw : ∀ env : Env, swapsWith (.Call (.Attribute (.Call (.Name "super" p0) [] [] p1) "__init__" p2) [.Constant (.str tx) kd p3] [] p4) none p5.line env = pure false)
    (hsw2 : ∀ env : Env, swapsWith (.Name fld q3) (some (.Attribute (.Name "self" q1) fld q2)) q4.line env = pure false)
    (htop : (P.main.scope.names.lookup ("super" : Str)).isSome = false)
    (hbd : ∀ (doc pm : Value) (an : Option Addr) (cdv ct : Value) (cc : Addr) (us : List Value), us.length = 2 → bindArgs (PySem.W.ksFn "__init__" qual params body scope .none .none doc pm an cdv ct cc) ⟨us, []⟩ = pure (([("self" : Str), fld] : List Str).zip us)) :
    ∃ fd, FnOk P w K mg base CX k fI fd ["self", fld] (spSup C fld) ∧ Binds K fd ["self", fld] [] := by
  obtain ⟨oc, doc, pm, ct, od, an, cc, cda, osl, lk, hcd, ⟨ccl, ccd, csl, lkc⟩, dcl, dcd, vs, ccs, file, tf, lkd, hvs, hfile⟩ := F.fn
  refine ⟨PySem.W.ksFn "__init__" qual params body scope .none .none doc pm an (.ref cda) ct cc, ?_, .all fun us hl => hbd doc pm an (.ref cda) ct cc us hl⟩
  refine ⟨fun vs H Q E h => by obtain ⟨a, v, rfl, _⟩ := h; rfl, fun A outer s H args us ws Q E hr e0 hb r hsp => ?_⟩
  obtain ⟨a, v, rfl, ha, q⟩ := hsp
  have KX : K.In s.heap := e0.mod.kin.keeps fun b o e => (e0.bs b o e).1
  have lim : s.heap.NoLimit := e0.mod.nolimit.keeps fun b o e => (e0.bs b o e).1
  obtain ⟨u1, u2, eus, r1, r2⟩ := vals2 r
  subst eus
  obtain rfl : u1 = Value.ref a := r1
  refine PySem.ks_codeAny_call_defAt (fd := PySem.W.ksFn "__init__" qual params body scope .none .none doc pm an (.ref cda) ct cc) (body := body) (binds := [(("self" : Str), .ref a), (fld, u2)]) hr.depth (KX _ _ lk) rfl lim (PySem.W.codeRec_of KX hcd) rfl hb hcell (fun y hy => ?_) (fun h₀ hns hk => ?_) hco hgen hsc
  · simp only [List.mem_cons, List.not_mem_nil, or_false] at hy
    rcases hy with e | e <;> rw [e]
    · exact hls
    · exact hlf
  -- the running body
  have hL : s.heap.objs.size ≤ s.heap.objs.size := Nat.le_refl _
  let env : Env := PySem.W.ksEnv qual scope s.heap.objs.size fI (.ref cda) cc
  let X : Cx := {
    prog := P
    w := w
    K := K
    mg := mg
    base := base
    A := A.deeper env
    N := ["self", fld]
    s_0 := s
    H_0 := H
    env := env
    outer := outer
    stack := env :: outer
    ex := []
    fn := (fun _ => false)
    calm := true
    pn := []
    xe := (fun e s' => wpAny (model P w) (A.deeper env) (leaving env e) (fun _ s'' => CR CX outer P w H s Q E (.error e) s'') (fun e' s'' => CR CX outer P w H s Q E (.error e') s'') s') }
  have noA : ∀ b : Addr, b ∉ X.ex := fun b z => absurd (show b ∈ ([] : List Addr) from z) (by simp)
  have hcl : ∀ {x : Str} {c : Addr}, env.cells.lookup x = some c → x = "__class__" ∧ c = cc := fun {x c} h => by
    have h' : List.lookup x [(("__class__" : Str), cc)] = some c := h
    rw [List.lookup] at h'
    by_cases e : (x == ("__class__" : Str)) = true
    · rw [e] at h'
      exact ⟨by simpa using e, by injection h' with h'; exact h'.symm⟩
    · rw [show (x == ("__class__" : Str)) = false by simpa using e] at h'
      cases h'
  have hcc : env.cells.lookup ("__class__" : Str) = some cc := by
    show List.lookup ("__class__" : Str) [(("__class__" : Str), cc)] = some cc
    rw [List.lookup, show (("__class__" : Str) == ("__class__" : Str)) = true by decide +kernel]
  have bcc : base.get? cc = some ⟨ccl, ccd, .cell (some (.ref C)), csl⟩ := e0.mod.kin _ _ lkc
  have I : Inv X [] [some (.ref a), some v] H { s with heap := h₀, toks := s.toks + 2 } := by
    refine ⟨⟨e0.mod, hsc, rfl, rfl, Nat.le_refl _, fun y z c h1 h2 => by rw [(hcl h1).1, (hcl h2).1], fun y hy => ?_, fun y c hf _ => Bool.noConfusion (show false = true from hf), fun _ => hr.hd, Around.frames_deeper e0.frames, .inr ⟨rfl, rfl⟩, fun b z => absurd z (noA b), e0.bs, e0.bsz, fun b _ _ => noA b, fun b z => absurd z (noA b), e0.funs, e0.frf⟩,
      rfl, e0.bare, Un.kept hk, ⟨_, hns, fun i y v' h1 h2 h3 => ?_⟩, fun y c h => ?_, e0.hok.fresh (Nat.le_refl _), fun y c h => ?_, fun p hp => absurd (show p ∈ ([] : List (Addr × Obj)) from hp) (by simp), e0.hok.kept hk, rfl⟩
    · have hy' : scope.names.lookup y = some .cell ∨ scope.names.lookup y = some .free := hy
      rcases hy' with hy' | hy'
      · exact absurd rfl (hcell _ (PySem.mem_of_lookup hy'))
      · rw [hfree y hy']; exact ⟨cc, hcc⟩
    · have hb1 : ([(("self" : Str), Value.ref a), (fld, u2)].reverse).lookup ("self" : Str) = some (.ref a) := by
        show List.lookup ("self" : Str) [(fld, u2), (("self" : Str), Value.ref a)] = _
        rw [List.lookup, show (("self" : Str) == fld) = false by simpa using hne.symm, List.lookup, show (("self" : Str) == ("self" : Str)) = true by decide +kernel]
      have hb2 : ([(("self" : Str), Value.ref a), (fld, u2)].reverse).lookup fld = some u2 := by
        show List.lookup fld [(fld, u2), (("self" : Str), Value.ref a)] = _
        rw [List.lookup, show (fld == fld) = true by simp]
      match i with
      | 0 =>
        have h1' : ("self" : Str) = y := Option.some.inj (show some ("self" : Str) = some y from h1)
        have h2' : V.ref a = v' := by simpa using h2
        subst h1'; subst h2'
        exact ⟨.ref a, rfl, .inl ⟨hls, hb1⟩⟩
      | 1 =>
        have h1' : fld = y := Option.some.inj (show some fld = some y from h1)
        have h2' : v = v' := by simpa using h2
        subst h1'; subst h2'
        exact ⟨u2, r2, .inl ⟨hlf, hb2⟩⟩
      | i + 2 =>
        have : ([some (V.ref a), some v] : List (Option V))[i + 2]? = none := by simp
        rw [this] at h2; cases h2
    · obtain ⟨_, rfl⟩ := hcl h
      exact ⟨some (.ref C), _, hk _ _ (KX _ _ lkc), rfl⟩
    · obtain ⟨_, rfl⟩ := hcl h
      exact (e0.bs _ _ bcc).2
  have hself : ([(("self" : Str), Value.ref a), (fld, u2)].reverse).lookup ("self" : Str) = some (.ref a) := by
    show List.lookup ("self" : Str) [(fld, u2), (("self" : Str), Value.ref a)] = _
    rw [List.lookup, show (("self" : Str) == fld) = false by simpa using hne.symm, List.lookup, show (("self" : Str) == ("self" : Str)) = true by decide +kernel]
  obtain ⟨nm, qn, N, bs, bm, sn, sub, ab, col, dd, k0, k1, k2, k3, k5, hC, hbm⟩ := F.O.cls
  have hcls : PySem.W.clsIn K C = some { name := nm, bases := bs, mro := .ref C :: bm, ns := N, qualname := qn, hasDict := true, slotNames := sn, subclasses := sub, abstract := ab, collection := col, hasDel := false } := by unfold PySem.W.clsIn; rw [hC] <;> rfl
  have keepB : ∀ b o, base.get? b = some o → h₀.get? b = some o := fun b o e => hk b o (e0.bs b o e).1
  obtain ⟨mb, hmb, hmbb⟩ := e0.mod.blt
  obtain ⟨t1, ho⟩ := exo_at I.hok ha
  have K0 : K.In h₀ := KX.keeps hk
  rw [hbody]
  show PySem.wpAt (model P w) X.A (.func _ env) (execs _ env) _ X.xe _
  refine PySem.ks_wpAt_execs_cons (PySem.ks_wpAt_Expr_any ?_ (hint _ _ _ _) (hsw env))
  obtain ⟨pl, hce⟩ := hcall env
  refine PySem.ks_wpAt_MethodCall (pl := pl) ?_ hce
  refine PySem.ks_wpAt_super_base (f := fI) (cc := cda) hks hkc (by decide +kernel) rfl (hk _ _ (KX _ _ lk)) rfl har rfl (hk _ _ (KX _ _ lkd)) rfl hvs hfile htop ?_
  refine PySem.W.ks_loadName_global hsc hks (loadGlobal_builtin (env := env) (e0.mod.glob.keeps keepB) hS (hmb.keeps keepB) ((hmbb _ (by decide +kernel)).trans (by decide +kernel : bootBuiltins "super" = some (.type "super"))) ⟨rfl, ?_⟩)
  refine wpAny_loadName_free hsc hkc hcc ⟨_, hk _ _ (KX _ _ lkc), rfl⟩ ?_
  rw [harn]
  refine wpAny_loadName_local hsc hls hns hself ?_
  refine PySem.ks_wpAny_isType_cls (K0 _ _ hC) rfl ⟨rfl, ?_⟩
  refine PySem.ks_wpAny_call_super (K0 _ _ hC) rfl ho rfl (fun c z => by cases z) (PySem.W.looks_mroIn K0 F.mro) (fun h1 e1 kp1 => ?_)
  have K1 : K.In h1 := K0.keeps kp1
  have IA : PySem.W.InstAt h1 a _ C none := ⟨kp1 _ _ ho, rfl, rfl, trivial⟩
  refine PySem.W.kxs_getMethod PySem.W.kxs_ValueError e1 (PySem.W.looks_opaque K1 F.opq) (l₀ := .ref C :: bm) ((PySem.W.looks_clsIn K1 hcls).andThen .now) rfl K1 ?_ (IA.type.andThen (PySem.W.looks_subIn K1 F.sub)) (PySem.W.ks_ne K1 IA hcls) (by decide +kernel) ?_
  · have := F.sup
    unfold PySem.W.ks_superIn at this
    rw [hcls] at this
    exact this
  have hst : backTo p4 (starEach [.Constant (.str tx) kd p3] env) = [(false, eval (.Constant (.str tx) kd p3) env)] := by rfl
  rw [hst]
  refine PySem.W.kxs_callWith (i := "ValueError.__init__") (x := a) rfl (evalArgs_plain (Calls.spliced_cons (Calls.Constant_str (k := kd) (pos := p3) (Calls.spliced_nil ⟨Heap.get?_push_at rfl rfl, ?_⟩))))
  have kp2 : ∀ b o, h₀.get? b = some o → (h1.push (PySem.W.kxs_mw "ValueError.__init__" a)).get? b = some o := fun b o e => Heap.get?_push_of_some _ (kp1 b o e)
  refine call_vw (s := ⟨h1.push (PySem.W.kxs_mw "ValueError.__init__" a), _, _, _, _⟩) (kp2 _ _ (K0 _ _ hC)) (kp2 _ _ ho) (Heap.get?_push_at rfl rfl) (by show 1 ≤ sizeLine; decide) (fun h' t2 kp3 hx => ?_)
  have I2 : Inv X [] [some (.ref a), some v] H { s with heap := h1.push (PySem.W.kxs_mw "ValueError.__init__" a), toks := s.toks + 2 } := I.kept (t' := s.toks + 2) kp2
  have J := fun tk : Nat => I2.write (t' := tk) (x := a) (e := a) (o := exo a C none) (by rw [ha]; exact True.intro) (.inl rfl) kp3 ⟨_, hx⟩ (exo_ok hx)
  have eu : upd H a (exo a C none) = H := by
    funext b
    by_cases hb : b = a
    · rw [hb, upd_same, ha]
    · rw [upd_ne hb]
  rw [eu] at J
  refine wpAt_of_wpAny ?_
  have PSS : PSs X [.Assign [.Attribute (.Name "self" q1) fld q2] (.Name fld q3) q4] (tOst K fld (tVar 0) (tVar 1)) := pss_one (ps_ost (pv 0 (hv := .inl hls)) (pv 1 (hv := .inl hlf) (hd := hdn) (hcd := hdc)) (hsw2 env))
  refine wpAny_mono (PSS.run [] _ _ H { nx := fun _ H' => Q .non H', rt := fun _ _ => False, bk := fun _ _ => False, ct := fun _ _ => False } (J _) ?_) (fun fl s' hs => ?_) (fun e s' z => z)
  · exact ⟨v, rfl, .ref a, rfl, a, C, rfl, F.O, F.noF, .inl ⟨ha, fun dx n ne => q dx n ne⟩⟩
  · cases fl with
    | next =>
      obtain ⟨σ', H', J', hq⟩ := hs
      exact ⟨.non, H', J'.os, J'.bare, J'.base, J'.hok, rfl, hq⟩
    | brk => exact False.elim (by obtain ⟨_, _, _, z⟩ := hs; exact z)
    | cont => exact False.elim (by obtain ⟨_, _, _, z⟩ := hs; exact z)
    | ret u => exact False.elim (by obtain ⟨_, _, _, _, _, z⟩ := hs; exact z)
end
end RG

/-! defs whose promise holds where something more is known of what runs around them (no repr under way), or less (an exception may be handled) -/
namespace RG
open PySem PySem.Spec PyProof.Rows L2 PySem.Calls
/-- calm or not: the context of such a def's body -/
def cxB (b : Bool) (P : Program) (w : World) (K : PySem.W.Frag) (mg : Str → Option Value) (base : Heap) (N : List Str) (qual : Str) (scope : Scope) (f : Addr) (cd : Value) (A : Around) (outer : List Env) (s : Shared) (H : Hp) : Cx :=
  { cxOf CX0 P w K mg base N qual scope f cd A outer s H E0 with calm := b }
structure FnA (G : Around → Prop) (P : Program) (w : World) (K : PySem.W.Frag) (mg : Str → Option Value) (base : Heap) (f : Addr) (fd : FuncData) (ps : List Str) (sp : Sp) : Prop where
  len : ∀ vs H Q, sp vs H Q E0 → vs.length = ps.length
  run : ∀ (A : Around) (outer : List Env) (s : Shared) (H : Hp) (args : Args) (us : List Value) (vs : List V) (Q : VK), G A → Env0 P w K mg base A outer s H → BindsTo s fd args (ps.zip us) → Vals vs us → sp vs H Q E0 →
    codeAny (model P w) A (.call (.ref f) args) (CR CX0 outer P w H s Q E0) s
section
variable {G : Around → Prop} {P : Program} {w : World} {K : PySem.W.Frag} {mg : Str → Option Value} {base : Heap} {x qual : Str} {params : Arguments} {body : List Stmt} {scope : Scope} {f : Addr} {fd : FuncData}
theorem okAc (b : Bool) {N ps : List Str} {sp : Sp} (F : FunD K x qual params body scope [] [] f fd) (S : FnScope N ps scope) (len : ∀ vs H Q, sp vs H Q E0 → vs.length = ps.length) (hd : ∀ A, G A → A.depth < recursionLimit) (hh : b = true → ∀ A, G A → A.handled = none)
    (hbody : ∀ (cdv : Value) (A : Around) (outer : List Env) (s : Shared) (H : Hp) (vs : List V) (Q : VK), fd.code = cdv → G A → sp vs H Q E0 →
      ∃ t, PSs (cxB b P w K mg base N qual scope f cdv A outer s H) body t ∧ t { nx := fun _ H' => Q .non H', rt := Q } (start N vs) H) : FnA G P w K mg base f fd ps sp := by
  obtain ⟨oc, od, dV, kV, doc, pm, an, cdv, ct, osl, efd, lk, hcd, _, _⟩ := F.ex
  subst efd
  refine ⟨len, fun A outer s H args us vs Q gA e0 hb rv hsp => ?_⟩
  have hl := len _ _ _ hsp
  have kIn : K.In s.heap := e0.mod.kin.keeps fun c o e => (e0.bs c o e).1
  have noL : s.heap.NoLimit := e0.mod.nolimit.keeps fun c o e => (e0.bs c o e).1
  have kinds : ∀ y ∈ ps.zip us, scope.names.lookup y.1 = some .local ∨ (scope.names.lookup y.1 = some .cell ∧ ((cellsFrom (s.heap.objs.size + 1) scope.names []).lookup y.1).isSome = true) := by
    rintro ⟨n, u⟩ hy
    exact (S.par n (List.of_mem_zip hy).1).imp id fun z => ⟨z, PySem.W.cellsFrom_some _ _ _ (.inl z)⟩
  refine codeAny_call_function (hd A gA) (kIn _ _ lk) rfl S.co S.gen rfl (PySem.W.codeRec_of kIn hcd) (hb _ _ _ _ (wpAny_newFunctionEnv_cells S.kind kinds fun env he s1 y => ?_))
  subst he
  refine ⟨noL.keeps y.toInCall.keep, codeAny_func ?_⟩
  obtain ⟨t, ht, hq⟩ := hbody cdv A outer s H vs Q rfl gA hsp
  -- entered as if nothing were handled
  have e1 : Env0 P w K mg base { A with handled := none } outer s H := ⟨e0.frames, e0.mod, e0.bs, e0.bsz, e0.funs, e0.frf, e0.hok, e0.bare⟩
  have I0 := inv_start (CX := CX0) (E := E0) S (A := { A with handled := none }) rfl e1 hl rv y
  have ok : (cxB b P w K mg base N qual scope f cdv A outer s H).Ok :=
    ⟨I0.ok.mod, I0.ok.kind, I0.ok.glob, I0.ok.blt, I0.ok.above, I0.ok.inj, I0.ok.has, I0.ok.cab, fun z => hh z A gA, Around.frames_deeper e0.frames, I0.ok.stk, I0.ok.exf, I0.ok.bs, I0.ok.bsz, I0.ok.noex, I0.ok.exfs, I0.ok.funs, I0.ok.frf⟩
  have I : Inv (cxB b P w K mg base N qual scope f cdv A outer s H) [] (start N vs) H s1 := ⟨ok, I0.os, I0.bare, I0.base, I0.loc, I0.cell, I0.free, I0.freeC, I0.pin, I0.hok, I0.len⟩
  refine wpAny_mono (ht.run [] s1 (start N vs) H _ I hq) (fun fl s2 z => ?_) fun _ _ z => z
  cases fl with
  | ret u =>
    obtain ⟨v, σ', H', J, ru, q⟩ := z
    exact ⟨v, H', J.os, J.bare, J.base, J.hok, ru, q⟩
  | next =>
    obtain ⟨σ', H', J, q⟩ := z
    exact ⟨.non, H', J.os, J.bare, J.base, J.hok, rfl, q⟩
  | brk => obtain ⟨_, _, _, q⟩ := z; exact q.elim
  | cont => obtain ⟨_, _, _, q⟩ := z; exact q.elim
theorem okA (b : Bool) {N ps : List Str} {sp : Sp} (F : FunD K x qual params body scope [] [] f fd) (S : FnScope N ps scope) (len : ∀ vs H Q, sp vs H Q E0 → vs.length = ps.length) (hd : ∀ A, G A → A.depth < recursionLimit) (hh : b = true → ∀ A, G A → A.handled = none)
    (hbody : ∀ (cdv : Value) (A : Around) (outer : List Env) (s : Shared) (H : Hp) (vs : List V) (Q : VK), G A → sp vs H Q E0 →
      ∃ t, PSs (cxB b P w K mg base N qual scope f cdv A outer s H) body t ∧ t { nx := fun _ H' => Q .non H', rt := Q } (start N vs) H) : FnA G P w K mg base f fd ps sp :=
  okAc b F S len hd hh fun cdv A outer s H vs Q _ => hbody cdv A outer s H vs Q
/-- the name x stands for such a def -/
structure DfA (G : Around → Prop) (P : Program) (w : World) (K : PySem.W.Frag) (mg : Str → Option Value) (base : Heap) (x : Str) (ps : List Str) (sp : Sp) : Prop where
  ex : ∃ (f : Addr) (fd : FuncData), mg x = some (.ref f) ∧ FnA G P w K mg base f fd ps sp ∧ PySem.W.keepIn K (.ref f) = true ∧ Binds K fd ps []
end
section
variable {X : Cx} {G : Around → Prop} {x : Str} {ps : List Str} {sp : Sp} {p pos : Pos} {e : Expr} {es : List Expr} {t : TA}
theorem pe_dfA (D : DfA G X.prog X.w X.K X.mg X.base x ps sp) (gA : G X.A) (ha : PA X (e :: es) t) (hg : Gl X x := by rfl)
    (hdb : (x == ("__debug__" : Str)) = false := by decide) (he : starEach (e :: es) X.env = (false, eval e X.env) :: starEach es X.env := by rfl) (hpl : (backTo pos (starEach es X.env)).any (·.1) = false := by rfl) :
    PE X (.Call (.Name x p) (e :: es) [] pos) (tCall sp [] E0 t) := by
  obtain ⟨f, fd, hm, F, hk, hb⟩ := D.ex
  refine ⟨fun pins s σ H Q I h => ?_⟩
  refine wpAny_Call_Name_kw (ld_glob I hg hm (PySem.W.callWith_K (h₀ := X.base) I.ok.mod.kin hk (thn (ha.run pos pins s σ H _ I h) fun us s1 z => ?_) he hpl) hdb)
  obtain ⟨vs, H1, I1, r, q⟩ := z
  rw [List.append_nil] at q
  have b := hb s1 us I1.kIn (by rw [List.append_nil, ← r.length]; exact F.len _ _ _ q)
  rw [List.append_nil] at b
  refine ⟨I1.kIn, wpAny_call (codeAny_mono (F.run X.A X.stack s1 H1 ⟨us, []⟩ us vs Q gA I1.env0 b r q) fun r' s2 z => ?_)⟩
  cases r' with
  | error er => exact False.elim z
  | ok fl =>
    cases fl with
    | ret u => exact I1.after z
    | next => exact False.elim z
    | brk => exact False.elim z
    | cont => exact False.elim z
end
/-- room where an exception may be handled -/
def GH (k : Nat) (A : Around) : Prop := L2H.RoomH k A
/-- room where no repr is under way -/
def GG (k : Nat) (A : Around) : Prop := Room k A ∧ A.guards = some []
theorem GH.depth {k : Nat} {A : Around} (h : GH k A) : A.depth < recursionLimit := L2H.RoomH.depth h
theorem GG.depth {k : Nat} {A : Around} (h : GG k A) : A.depth < recursionLimit := h.1.depth
theorem GH.deeper {k : Nat} {A : Around} (h : GH (k + 1) A) (env : Env) : GH k (A.deeper env) := L2H.RoomH.deeper h env
theorem GG.deeper {k : Nat} {A : Around} (h : GG (k + 1) A) (env : Env) : GG k (A.deeper env) := ⟨h.1.deeper env, by
  show Around.guards (A.deeper env) = some []
  have := h.2
  simp [Around.deeper, this]⟩
theorem GH.mono {j k : Nat} {A : Around} (h : GH k A) (hj : j ≤ k) : GH j A := L2H.RoomH.mono h hj
/-- the end of making an own error -/
theorem mkO_end {C : Addr} {fld : Str} {v : V} {H1 : Hp} {Q : XK} (q : ∀ d, H1 d = none → Q (.ref C) (some d) (upd H1 d (.xd [(fld, v)]))) :
    [v].length ≤ 1000 ∧ ∀ a, H1 a = none → spSup C fld (.ref a :: ([v] ++ [])) (upd H1 a (exo a C none))
      (fun v' H2 => v' = .non ∧ ∃ (d : Addr) (fs : List (Str × V)), H2 a = some (exo a C (some d)) ∧ H2 d = some (exd d fs) ∧ H1 d = none ∧ Q (.ref C) (some d) (upd (del H2 a) d (.xd fs))) (fun _ _ _ => False) := by
  refine ⟨by simp, fun a na => ⟨a, v, rfl, upd_same, fun dx n ne => ⟨rfl, dx, [(fld, v)], upd_same, by rw [upd_ne ne, upd_same], ?_, ?_⟩⟩⟩
  · rw [upd_ne ne] at n; exact n
  · rw [upd_ne ne] at n
    have e : upd (del (upd (upd (upd H1 a (exo a C none)) dx (exd dx [(fld, v)])) a (exo a C (some dx))) a) dx (.xd [(fld, v)]) = upd H1 dx (.xd [(fld, v)]) := by
      funext b
      by_cases h1 : b = dx
      · subst h1; rw [upd_same, upd_same]
      · rw [upd_ne h1, upd_ne h1]
        by_cases h2 : b = a
        · subst h2; rw [del_same, na]
        · rw [del_ne h2, upd_ne h2, upd_ne h1, upd_ne h2]
    rw [e]
    exact q dx n
/-- an own error x with one field, at C: made, raised, read -/
structure Rz (P : Program) (w : World) (K : PySem.W.Frag) (mg : Str → Option Value) (base : Heap) (x : Str) (C : Addr) (fld : Str) : Prop where
  gC : mg x = some (.ref C)
  O : OexC K C
  ini : ∃ (fI : Addr) (fd : FuncData), PySem.W.findIn K (.ref C) "__init__" = some (some (.ref fI)) ∧ PySem.W.typeIn K (.ref fI) = some (.type "function") ∧ FnOk P w K mg base CX0 0 fI fd ["self", fld] (spSup C fld) ∧ Binds K fd ["self", fld] []
  noF : PySem.W.findIn K (.ref C) fld = some none
  ga : PySem.W.findIn K (.ref C) "__getattribute__" = some (some (.builtin "BaseException.__getattribute__"))
  gg : PySem.W.findIn K (.ref C) "__getattr__" = some none
  hdC : PySem.W.hasDictIn K C = true
  te : PySem.W.exmOne K (.ref C) (.ref C) = some true
section
variable {X : Cx} {k : Nat} {x : Str} {C : Addr} {fld : Str} {a e : Expr} {ta : TA} {te : TE} {W : WX} {p pos pos2 : Pos}
theorem ps_raiseX (hc : X.calm = true) (Z : Rz X.prog X.w X.K X.mg X.base x C fld) (hr : Room k X.A) (tk : Takes X W) (ha : PA X [a] ta) (hk : 1 ≤ k := by first | decide | omega) (hg : Gl X x := by rfl)
    (hdb : (x == ("__debug__" : Str)) = false := by decide) (he : starEach (a :: []) X.env = (false, eval a X.env) :: starEach [] X.env := by rfl) (hpl : (backTo pos (starEach [] X.env)).any (·.1) = false := by rfl) :
    PS X (.Raise (some (.Call (.Name x p) [a] [] pos)) none pos2) (fun _ σ H => tMkO C (spSup C fld) [] ta σ H fun cls d H' => W cls d σ H') := by
  obtain ⟨fI, fd, h1, h2, F, b⟩ := Z.ini
  exact ps_raise hc tk (pmk_oex Z.O h1 h2 F (hr.mono hk) b .nil pass0 hg Z.gC ha hdb he hpl)
theorem s_mkO {σ : L2.St} {H : Hp} {Q : XK} (h : ta σ H fun vs H1 => vs.length ≤ 1000 ∧ ∀ a, H1 a = none → spSup C fld (.ref a :: (vs ++ [])) (upd H1 a (exo a C none))
  (fun v H2 => v = .non ∧ ∃ (d : Addr) (fs : List (Str × V)), H2 a = some (exo a C (some d)) ∧ H2 d = some (exd d fs) ∧ H1 d = none ∧ Q (.ref C) (some d) (upd (del H2 a) d (.xd fs))) (fun _ _ _ => False)) : tMkO C (spSup C fld) [] ta σ H Q := h
/-- the field of the error that the suite holds -/
def tByX (C : Addr) (fld : Str) (a : Addr) (cls : Value) (d : Option Addr) (te : TE) : TE := fun σ H Q => te σ H fun x H1 => x = .ref a ∧ cls = .ref C ∧ ∃ (dd : Addr) (v : V), d = some dd ∧ H1 dd = some (.xd [(fld, v)]) ∧ Q v H1
theorem pe_byX {b : Addr} {oe : Obj} {cls : Value} {d : Option Addr} {pn : List (Addr × Obj)} (Z : Rz X.prog X.w X.K X.mg X.base x C fld) (hz : Zc cls d oe) (hf : ∃ vs, oe.data = .fields vs) (he : PE (X.suite b ((b, oe) :: pn)) e te)
    (hb : attributeBase e fld X.env (eval e X.env) = eval e X.env := by rfl) : PE (X.suite b ((b, oe) :: pn)) (.Attribute e fld pos) (tByX C fld b cls d te) := by
  refine ⟨fun pins s σ H Q I h => attr_of hb (thn (he.run pins s σ H _ I h) fun u s1 z => ?_)⟩
  obtain ⟨y, H1, I1, ry, ey, ec, dd, v, ed, ea, q⟩ := z
  subst ey
  obtain rfl : u = Value.ref b := ry
  subst ec
  subst ed
  have pn1 := (I1.pin (b, oe) (List.mem_append_left _ List.mem_cons_self)).1
  obtain ⟨vs, hd⟩ := hf
  obtain ⟨mA, hns, hr⟩ : ObjOk X.prog X.w H1 s1.heap dd (.xd [(fld, v)]) := I1.hok dd _ ea
  obtain ⟨od, ho, hl⟩ := lookIn_ns hns
  have l : List.lookup fld [(fld, v)] = some v := by simp [List.lookup]
  obtain ⟨u', hu, ru⟩ := RelO.some_of (v := v) (o := mA fld) (by rw [← l]; exact hr fld)
  have J : PySem.W.InstAt s1.heap b oe C (some od) := ⟨pn1, hz.1, by unfold PySem.W.notCls; rw [hd] <;> rfl, by rw [hz.2]; exact ho⟩
  exact HandSPX.exc_get I1.kIn J Z.ga Z.gg Z.O.exC (PySem.W.findObj_own Z.hdC Z.noF rfl (by rw [hl, hu])) (handed_of ru) ⟨v, H1, I1.tok _, ru, q⟩
end
end RG

/-! x(lambda: body, thing): the def that got both runs the lambda in a try, its suite reads the thing and the error -/
namespace RG
open PySem PySem.Spec PyProof.Rows L2 PySem.Calls LamX
/-- the taker's context -/
abbrev cxT (X : Cx) (Ng : List Str) (qg : Str) (sg : Scope) (g : Addr) (cdg : Value) (s : Shared) (H : Hp) : Cx := cxOf CX0 X.prog X.w X.K X.mg X.base Ng qg sg g cdg X.A X.stack s H E0
section
variable {X : Cx} {pins : List (Addr × Obj)} {σ : L2.St} {H : Hp} {s : Shared} {Ng : List Str} {qg : Str} {sg : Scope} {g f c1 : Addr} {cdg pm ctv : Value} {params : Arguments} {body : Expr} {scope : Scope} {k i : Nat} {a : Str} {pn : List (Addr × Obj)} {xe : Value → Shared → Prop} {W : WX} {t : XK → TE} {p1 p2 : Pos}
/-- the lambda called by its name: what it lets out reaches W at the very slots of the call -/
theorem act2 (J : Inv X pins σ H s) (L : LamS X.env.scope scope) (ho : s.heap.get? f = some (PySem.W.kla_obj "<lambda>" (X.env.qual ++ "<lambda>") params body scope (cloFrom X.env.cells scope.names []) pm c1 ctv)) (hn : H f = none) (hst : f ∉ frs X.stack)
    (hbd : bindArgs (PySem.W.kla_fn "<lambda>" (X.env.qual ++ "<lambda>") params body scope (cloFrom X.env.cells scope.names []) pm (.ref c1) ctv) ⟨[], []⟩ = pure [])
    (tk : Takes ((cxT X Ng qg sg g cdg s H).tr pn xe) W) (hr : Room (k + 1) (X.A.deeper (envOfC qg sg s.heap.objs.size g cdg)))
    (hin : ∀ (A : Around) (outer : List Env) (s : Shared) (H : Hp) (E : XK), Room k (A.deeper (lamEnv X scope s.heap.objs.size f c1)) → PE (lamCx X A outer s H E scope f c1) body (t E))
    (hN : Ng[i]? = some a) (hv : Vis sg a) (hd : (a == ("__debug__" : Str)) = false) (hcd : (a == ("__classdict__" : Str)) = false) :
    PE ((cxT X Ng qg sg g cdg s H).tr pn xe) (.Call (.Name a p1) [] [] p2)
      (fun τ G R => τ[i]? = some (some (.ref f)) ∧ G c1 = some (CodeO c1 (X.env.qual ++ "<lambda>")) ∧ ∃ Ech : XK, (∀ cls d G', Ech cls d G' → W cls d τ G') ∧ t Ech σ G R) := by
  refine ⟨fun pz sz τ G R Iz z => ?_⟩
  obtain ⟨z1, z2, Ech, hW, zt⟩ := z
  have nm := (pe_var (X := (cxT X Ng qg sg g cdg s H).tr pn xe) (pos := p1) (i := i) hN hv hd hcd).run pz sz τ G (fun v G1 => v = .ref f ∧ G1 = G) Iz ⟨.ref f, z1, rfl, rfl⟩
  refine wpAny_Call_Name_kw (thn nm ?_)
  rintro u sy ⟨v, G1, Iy, ru, ev, eG⟩
  rw [ev] at ru
  rw [eG] at Iy
  cases (show u = Value.ref f from ru)
  have fo := Iy.base.keep f _ ho hn hst (List.not_mem_nil)
  obtain ⟨⟨oc, vs, tc, g1, g2, g3⟩, _, _⟩ := Iy.hok c1 _ z2
  have away : Un (frs X.stack) [] H G s.heap sy.heap := Iy.base
  refine PySem.W.callWith_F0 ⟨_, _, _, _, fo⟩ ?_
  have runs : codeAny (model X.prog X.w) (X.A.deeper (envOfC qg sg s.heap.objs.size g cdg)) (.call (.ref f) ⟨[], []⟩)
      (CR (L2.CX X.prog X.w) (envOfC qg sg s.heap.objs.size g cdg :: X.stack) X.prog X.w G sy R Ech) sy := by
    apply PySem.W.kla_callFunE hr.depth fo rfl L.co L.gen rfl ⟨c1, oc, vs, tc, rfl, g1, g2, g3⟩
    rw [hbd]
    apply wpAny_pure
    refine wpAny_newFunctionEnv (fun y m => (L.own y m).2) (fun y m => absurd m List.not_mem_nil) (fun hx nsx sbx => ⟨Iy.nolimit.fresh _ sbx, ?_⟩) L.kind
    have kp : ∀ b o, sy.heap.get? b = some o → hx.get? b = some o := fun b o e => sbx.extBut b o (Nat.ne_of_lt (Heap.lt_size e)) (Heap.get?_push_of_some _ e)
    show codeAny _ _ (.expr body (lamEnv X scope sy.heap.objs.size f c1)) _ _
    have I2 : Inv (lamCx X (X.A.deeper (envOfC qg sg s.heap.objs.size g cdg)) (envOfC qg sg s.heap.objs.size g cdg :: X.stack) sy G Ech scope f c1) [] σ G { sy with heap := hx, toks := sy.toks + ([] : List (Str × Value)).length } := lam_start2 J L Iy.env0 hr.hd away nsx kp
    apply PySem.W.kla_codeExpr
    refine wpAny_mono ((hin _ _ sy G _ (hr.deeper _)).run [] _ σ G R I2 zt) ?_ (fun _ _ x => x)
    rintro v' sw ⟨w', G', Iw, rw', q'⟩
    exact ⟨w', G', Iw.os, Iw.bare, Iw.base, Iw.hok, rw', q'⟩
  refine wpAny_call (codeAny_mono runs ?_)
  intro r sw hq
  match r, hq with
  | .error e, hq => exact tk e sw (XE.of_call Iy hW hq)
  | .ok (.ret u), hq => exact Iy.after hq
  | .ok .next, hq => exact False.elim hq
  | .ok .brk, hq => exact False.elim hq
  | .ok .cont, hq => exact False.elim hq
end
/-- the taker: a calls the lambda (slot 0); slot 1 holds the thing -/
def Gives2 (X : Cx) (Ng : List Str) (x : Str) (sg : Scope) (g : Addr) (cdg : Value) (bg : List Stmt) (a : Str) (q : Str) (T2 : V → (XK → Hp → VK → Prop) → Hp → VK → Prop) : Prop :=
  ∀ (f c1 : Addr) (s : Shared) (H : Hp) (v : V) (Q : VK) (tl : XK → Hp → VK → Prop), Room 3 (X.A.deeper (envOfC x sg s.heap.objs.size g cdg)) →
    (∀ (W : WX) (pn : List (Addr × Obj)) (xe : Value → Shared → Prop) (p1 p2 : Pos), Takes ((cxT X Ng x sg g cdg s H).tr pn xe) W →
      PE ((cxT X Ng x sg g cdg s H).tr pn xe) (.Call (.Name a p1) [] [] p2) (fun τ G R => τ[0]? = some (some (.ref f)) ∧ G c1 = some (CodeO c1 q) ∧ ∃ Ech : XK, (∀ cls d G', Ech cls d G' → W cls d τ G') ∧ tl Ech G R)) →
    H c1 = some (CodeO c1 q) → T2 v tl H Q → ∃ t, PSs (cxT X Ng x sg g cdg s H) bg t ∧ t { nx := fun _ H' => Q .non H', rt := Q } (L2.start Ng [.ref f, v]) H
def tMet (T : List (Addr × Str)) (i : Nat) (T2 : V → (XK → Hp → VK → Prop) → Hp → VK → Prop) (t : XK → TE) : TE := fun σ H Q => Tabs T H ∧ ∃ v, σ[i]? = some (some v) ∧ ∀ H1, ExtN H H1 → Tabs T H1 → T2 v (fun E H' Q' => t E σ H' Q') H1 Q
section
variable {X : Cx}
theorem pe_met {T : List (Addr × Str)} {T2 : V → (XK → Hp → VK → Prop) → Hp → VK → Prop} {x a b y : Str} {g c P : Addr} {k i : Nat} {pg : Arguments} {bg : List Stmt} {sg : Scope} {dV kV doc pm cdv ct oc : Value} {an od : Option Addr} {osl : Array (Option Value)} {Ng : List Str}
    {params : Arguments} {body : Expr} {scope : Scope} {t : XK → TE} {p lpos ypos pos : Pos} (hm : X.mg x = some (.ref g)) (hkp : PySem.W.keepIn X.K (.ref g) = true) (lk : X.K.lookup g = some ⟨oc, od, .func (PySem.W.fnOf x x pg bg sg dV kV doc pm an cdv ct), osl⟩)
    (hcg : PySem.W.codeIn X.K cdv x = true) (hbi : L2.Binds X.K (PySem.W.fnOf x x pg bg sg dV kV doc pm an cdv ct) [a, b] []) (Sg : FnScope Ng [a, b] sg) (hNg : Ng[0]? = some a) (hva : Vis sg a) (hG : Gives2 X Ng x sg g cdv bg a (X.env.qual ++ "<lambda>") T2)
    (TB : TabB X.base X.mg c P) (hcode : X.env.code = .ref c) (hmT : (P, X.env.qual ++ "<lambda>") ∈ T) (hu : ∀ p ∈ T, p.1 = P → p.2 = X.env.qual ++ "<lambda>") (hr : Room (k + 4) X.A) (L : LamS X.env.scope scope) (hdef : defaultsOf params X.env = ([], []))
    (hbd : ∀ (q : Str) (cl : List (Str × Addr)) (pm cv ctv : Value), bindArgs (PySem.W.kla_fn "<lambda>" q params body scope cl pm cv ctv) ⟨[], []⟩ = pure [])
    (hin : ∀ (A : Around) (outer : List Env) (s : Shared) (H : Hp) (E : XK) (f c1 : Addr), Room (k + 2) (A.deeper (lamEnv X scope s.heap.objs.size f c1)) → PE (lamCx X A outer s H E scope f c1) body (t E))
    (hy : X.N[i]? = some y) (hvy : Vis X.env.scope y) (hg : Gl X x := by rfl) (hdb : (x == ("__debug__" : Str)) = false := by decide) (hd : (a == ("__debug__" : Str)) = false := by decide) (hcd : (a == ("__classdict__" : Str)) = false := by decide) (hdy : (y == ("__debug__" : Str)) = false := by decide) (hcy : (y == ("__classdict__" : Str)) = false := by decide) (hsk : X.stack = X.env :: X.outer := by rfl) (hfm : X.env.frame = some X.env.locals := by rfl) :
    PE X (.Call (.Name x p) [.Lambda params body scope lpos, .Name y ypos] [] pos) (tMet T i T2 t) := by
  refine ⟨fun pins s σ H Q I ⟨hT, v, hσ, h⟩ => ?_⟩
  refine wpAny_Call_Name_kw (ld_glob I hg hm ?_ hdb)
  refine PySem.W.callWith_K (h₀ := X.base) I.ok.mod.kin hkp ?_ (by rfl) (by rfl)
  show wpAny _ _ (spliced ((false, eval (.Lambda params body scope lpos) X.env) :: backTo pos (starEach [.Name y ypos] X.env))) _ _ s
  refine Calls.spliced_cons (lam_make2 I TB hcode hmT hu hT hdef (L.has I.ok) fun f c1 pm1 ctv H1 s1 I1 eN T1 hf hfn hfr hco => ?_)
  -- the lambda's object stays while the name is read
  have Ip : Inv X ((f, PySem.W.kla_obj "<lambda>" (X.env.qual ++ "<lambda>") params body scope (cloFrom X.env.cells scope.names []) pm1 c1 ctv) :: pins) σ H1 s1 := I1.pins_of fun z hz => by
    rcases List.mem_cons.mp hz with e | e
    · subst e
      have efr : frs X.stack = X.env.locals :: frs X.outer := by
        rw [hsk]
        unfold frs
        rw [List.filterMap_cons, hfm]
      rw [efr] at hfr
      exact ⟨hf, hfn, fun e2 => hfr (List.mem_cons.mpr (.inl e2)), fun e2 => hfr (List.mem_cons_of_mem _ e2), fun u e2 => by cases e2⟩
    · exact I1.pin z (List.mem_append_right _ e)
  refine Calls.spliced_cons (thn ((pe_var (X := X) (pos := ypos) (i := i) hy hvy hdy hcy).run _ s1 σ H1 (fun w G => w = v ∧ G = H1) Ip ⟨v, hσ, rfl, rfl⟩) ?_)
  rintro u s2 ⟨w, G, I2, ru, ew, eG⟩
  subst ew
  subst eG
  have hf2 := (I2.pin (f, PySem.W.kla_obj "<lambda>" (X.env.qual ++ "<lambda>") params body scope (cloFrom X.env.cells scope.names []) pm1 c1 ctv) (List.mem_append_right _ List.mem_cons_self)).1
  have I3 : Inv X pins σ G s2 := I2.pins_of fun z hz => I2.pin z (List.mem_append_right _ (List.mem_cons_of_mem _ hz))
  refine Calls.spliced_nil ⟨I3.kIn, ?_⟩
  have done : codeAny (model X.prog X.w) X.A (.call (.ref g) ⟨[.ref f, u], []⟩) (CR CX0 X.stack X.prog X.w G s2 Q E0) s2 := by
    refine run_ofS (N := Ng) (ps := [a, b]) (us := [.ref f, u]) (vs := [.ref f, w]) lk hcg Sg (k := k + 3) hr I3.env0 (hbi s2 [.ref f, u] I3.kIn rfl) (.cons rfl (.cons ru .nil)) rfl fun hr2 => ?_
    exact hG f c1 s2 G w Q (fun E H' Q' => t E σ H' Q') (hr2.mono (by omega)) (fun W pn xe p1 p2 tk => act2 (i := 0) I3 L hf2 hfn hfr (hbd _ _ _ _ _) tk (hr2.mono (by omega)) (fun A outer s H E hr3 => hin A outer s H E f c1 hr3) hNg hva hd hcd) hco (h G eN T1)
  refine wpAny_call (codeAny_mono done ?_)
  intro r s3 hq
  match r, hq with
  | .error e, hq => exact False.elim hq
  | .ok (.ret u), hq => exact I3.after hq
  | .ok .next, hq => exact False.elim hq
  | .ok .brk, hq => exact False.elim hq
  | .ok .cont, hq => exact False.elim hq
end
theorem tmem {P : Addr} {q : Str} : (P, q) ∈ [(P, q)] := List.mem_singleton.mpr rfl
theorem tuni {P : Addr} {q : Str} : ∀ p ∈ [(P, q)], p.1 = P → p.2 = q := fun p hp _ => by rw [List.mem_singleton.mp hp]
section
variable {X : Cx}
theorem pe_met1 {T2 : V → (XK → Hp → VK → Prop) → Hp → VK → Prop} {x a b y qq : Str} {g c P : Addr} {k i : Nat} {pg : Arguments} {bg : List Stmt} {sg : Scope} {dV kV doc pm cdv ct oc : Value} {an od : Option Addr} {osl : Array (Option Value)} {Ng : List Str}
    {params : Arguments} {body : Expr} {scope : Scope} {t : XK → TE} {p lpos ypos pos : Pos} (hm : X.mg x = some (.ref g)) (hkp : PySem.W.keepIn X.K (.ref g) = true) (lk : X.K.lookup g = some ⟨oc, od, .func (PySem.W.fnOf x x pg bg sg dV kV doc pm an cdv ct), osl⟩)
    (hcg : PySem.W.codeIn X.K cdv x = true) (hbi : L2.Binds X.K (PySem.W.fnOf x x pg bg sg dV kV doc pm an cdv ct) [a, b] []) (Sg : FnScope Ng [a, b] sg) (hNg : Ng[0]? = some a) (hva : Vis sg a) (hG : ∀ q, Gives2 X Ng x sg g cdv bg a q T2)
    (TB : TabB X.base X.mg c P) (hcode : X.env.code = .ref c) (hr : Room (k + 4) X.A) (L : LamS X.env.scope scope) (hdef : defaultsOf params X.env = ([], []))
    (hbd : ∀ (q : Str) (cl : List (Str × Addr)) (pm cv ctv : Value), bindArgs (PySem.W.kla_fn "<lambda>" q params body scope cl pm cv ctv) ⟨[], []⟩ = pure [])
    (hin : ∀ (A : Around) (outer : List Env) (s : Shared) (H : Hp) (E : XK) (f c1 : Addr), Room (k + 2) (A.deeper (lamEnv X scope s.heap.objs.size f c1)) → PE (lamCx X A outer s H E scope f c1) body (t E))
    (hy : X.N[i]? = some y) (hvy : Vis X.env.scope y) (hqq : X.env.qual = qq) (hg : Gl X x := by rfl) (hdb : (x == ("__debug__" : Str)) = false := by decide) (hd : (a == ("__debug__" : Str)) = false := by decide) (hcd : (a == ("__classdict__" : Str)) = false := by decide) (hdy : (y == ("__debug__" : Str)) = false := by decide) (hcy : (y == ("__classdict__" : Str)) = false := by decide) (hsk : X.stack = X.env :: X.outer := by rfl) (hfm : X.env.frame = some X.env.locals := by rfl) :
    PE X (.Call (.Name x p) [.Lambda params body scope lpos, .Name y ypos] [] pos) (tMet [(P, qq ++ "<lambda>")] i T2 t) := by
  rw [← hqq]
  exact pe_met hm hkp lk hcg hbi Sg hNg hva (hG _) TB hcode tmem tuni hr L hdef hbd hin hy hvy hg hdb hd hcd hdy hcy hsk hfm
end
/-- called by keywords alone, the parameters' order turned round -/
def revG {α : Type} (us ws : List α) : List α := us ++ ws.reverse
structure DfK (P : Program) (w : World) (K : PySem.W.Frag) (mg : Str → Option Value) (base : Heap) (CX : CXT) (k : Nat) (x : Str) (ps ks : List Str) (sp : Sp) : Prop where
  ex : ∃ (f : Addr) (fd : FuncData), mg x = some (.ref f) ∧ FnOk P w K mg base CX k f fd ps sp ∧ PySem.W.keepIn K (.ref f) = true ∧ KBinds K fd ps ks revG revG
section
variable {X : Cx} {x : Str} {k j : Nat} {ps ks : List Str} {sp : Sp} {p pos : Pos} {e : Expr} {es : List Expr} {kws : List Keyword} {t tk : TA}
theorem pe_dfk (D : DfK X.prog X.w X.K X.mg X.base CX0 j x ps ks sp) (hr : Room k X.A) (hkw : PK X kws tk) (hj : j ≤ k := by first | decide | omega) (hg : Gl X x := by rfl) (hdb : (x == ("__debug__" : Str)) = false := by decide)
    (hall : (backToKw pos (keywordEach kws X.env)).all (·.1.isSome) = true := by rfl) (hks : (backToKw pos (keywordEach kws X.env)).filterMap (·.1) = ks := by rfl)
    (hpl : ((backTo pos (starEach [] X.env)).any (·.1) || (backToKw pos (keywordEach kws X.env)).any (·.1.isNone)) = false := by rfl) : PE X (.Call (.Name x p) [] kws pos) (tCallK sp revG E0 tNil tk) := by
  obtain ⟨f, fd, hm, F, hk, hb⟩ := D.ex
  refine ⟨fun pins s σ H Q I h => ?_⟩
  refine wpAny_Call_Name_kw (ld_glob I hg hm ?_ hdb)
  refine PySem.W.callWith_KW0 (h₀ := X.base) I.ok.mod.kin hk hall (thn (hkw.run pos pins s σ H _ I h) ?_) hpl
  rintro ws s2 ⟨zs, H2, I2, rz, q2⟩
  refine ⟨I2.kIn, ?_⟩
  rw [hks]
  exact run_fnk (us := []) (vs := []) F (hr.mono hj) hb pass0 I2 .nil rz q2
theorem s_callK {σ : L2.St} {H : Hp} {Q : VK} (h : tk σ H fun zs H2 => sp (revG [] zs) H2 Q E0) : tCallK sp revG E0 tNil tk σ H Q := h
theorem pe_dfX {E : XK} (D : Df X.prog X.w X.K X.mg X.base (L2.CX X.prog X.w) j x ps sp) (hr : Room k X.A) (tk : Takes X (fun cls d _ H => E cls d H)) (ha : PA X (e :: es) t) (hj : j ≤ k := by first | decide | omega) (hg : Gl X x := by rfl)
    (hdb : (x == ("__debug__" : Str)) = false := by decide) (he : starEach (e :: es) X.env = (false, eval e X.env) :: starEach es X.env := by rfl) (hpl : (backTo pos (starEach es X.env)).any (·.1) = false := by rfl) :
    PE X (.Call (.Name x p) (e :: es) [] pos) (tCall sp [] E t) := by
  obtain ⟨f, fd, hm, F, hk, hb⟩ := D.ex
  exact pe_call F (hr.mono hj) hg hm hk hb .nil (passes_call tk fun _ _ _ _ h => h) ha hdb he hpl
end
/-! ### the order of a dict does not matter -/
theorem lookD_iff {n : Str} {v : PyData} : ∀ {ds : List (PyData × PyData)}, (ds.map (·.1)).Nodup → (lookD ds n = some v ↔ (PyData.str n, v) ∈ ds)
  | [], _ => by simp [lookD]
  | (k, u) :: r, nd => by
    have nd' : k ∉ r.map (·.1) ∧ (r.map (·.1)).Nodup := List.nodup_cons.mp nd
    have ih := lookD_iff (n := n) (v := v) nd'.2
    cases k with
    | str x =>
      show (if x = n then some u else lookD r n) = some v ↔ _
      by_cases e : x = n
      · subst e
        rw [if_pos rfl, List.mem_cons]
        refine ⟨fun z => .inl (by cases z; rfl), fun z => ?_⟩
        rcases z with z | z
        · cases z; rfl
        · exact absurd (List.mem_map_of_mem (f := (·.1)) z) nd'.1
      · rw [if_neg e, ih, List.mem_cons]
        exact ⟨.inr, fun z => z.elim (fun z => by cases z; exact absurd rfl e) id⟩
    | none => simpa [lookD] using ih
    | bool => simpa [lookD] using ih
    | int => simpa [lookD] using ih
    | list => simpa [lookD] using ih
    | tuple => simpa [lookD] using ih
    | dict => simpa [lookD] using ih
theorem lookD_perm {ds es : List (PyData × PyData)} (p : ds.Perm es) (nd : (ds.map (·.1)).Nodup) (n : Str) : lookD ds n = lookD es n := by
  have nd2 : (es.map (·.1)).Nodup := (p.map _).nodup_iff.mp nd
  apply Option.ext
  intro v
  rw [lookD_iff nd, lookD_iff nd2]
  exact p.mem_iff
theorem isMapB_perm {ds es : List (PyData × PyData)} {h h2 t : Int} {A B : Arcs} (p : ds.Perm es) (nd : (ds.map (·.1)).Nodup) : isMapB h A h2 B t (.dict ds) = isMapB h A h2 B t (.dict es) := by
  have e : imgD ds = imgD es := funext fun n => by unfold imgD; rw [lookD_perm p nd]
  have e2 : stepB h A B t ds = stepB h A B t es := funext fun n => by unfold stepB; rw [e]
  show (decide (ds.length = A.length) && _ && _) = (decide (es.length = A.length) && _ && _)
  rw [p.length_eq, e, e2]
end RG

/-! small facts for the judge of maps -/
namespace RG
open PySem PySem.Spec PyProof.Rows L2
theorem kvs_self : ∀ A : Arcs, LoKv (kvsD A) (kvsD A)
  | [] => .nil
  | a :: r => .cons (.tt (.cons (.leaf rfl rfl rfl) (.cons (.leaf rfl rfl rfl) .nil))) (kvs_self r)
theorem arcs_self (A : Arcs) : Lo (arcsD A) (arcsD A) := .dct (.refl _) (kvs_self A)
theorem arcs_sm0 {h : Int} {A : Arcs} (hh : h ≤ 100000) (o : ArcsOk h A) (hl : A.length ≤ 40) : sm (arcsD A) = true := arcs_sm hh o hl (arcs_self A)
theorem kvs_wt : ∀ A : Arcs, wtKv (kvsD A) = A.length
  | [] => rfl
  | a :: r => by
    show wt (arcD a.2) + wtKv (kvsD r) = _
    rw [kvs_wt r, List.length_cons, arcD, wt, wtAll, wtAll, wtAll, wt, wt]
    omega
theorem arcs_wt (A : Arcs) : wt (arcsD A) = 2 * A.length := by
  rw [arcsD, wt, kvs_wt, kvsD_len]; omega
theorem kvs_dep : ∀ A : Arcs, depKv (kvsD A) ≤ 1
  | [] => Nat.zero_le _
  | a :: r => by
    show max (max (dep (.str a.1)) (dep (arcD a.2))) (depKv (kvsD r)) ≤ 1
    have := kvs_dep r
    rw [arcD, dep, dep, depAll, depAll, depAll, dep, dep]
    omega
theorem arcs_dep (A : Arcs) : dep (arcsD A) ≤ 4 := by
  rw [arcsD, dep]
  have := kvs_dep A
  omega
theorem s_mk {C : Addr} {sp : Sp} {E : XK} {t : TA} {σ : L2.St} {H : Hp} {Q : VK} (h : t σ H fun vs H1 => ∀ x dx, H1 x = none → H1 dx = none → dx ≠ x → sp (.ref x :: (vs ++ [])) (upd (upd H1 dx (.own x)) x (.ins C dx [])) (fun v H2 => v = .non ∧ Q (.ref x) H2) E) : tMake C sp [] E t σ H Q := h
theorem tabs_nx {T : List (Addr × Str)} {H H' : Hp} {s : Addr} {n : Nat} (g : Nx [s] H H') (hs : Spr H s n) (t : LamX.Tabs T H) : LamX.Tabs T H' := by
  obtain ⟨x, y, z, es, _⟩ := hs.ex
  intro p hp
  obtain ⟨ps, h1, h2, h3⟩ := t p hp
  have ne : ∀ b o, H b = some o → (∀ xs, o ≠ .lst xs) → H' b = some o := fun b o e nl => g.kp b o (by rw [List.mem_singleton]; rintro rfl; rw [es] at e; cases e; exact nl _ rfl) e
  refine ⟨ps, ne _ _ h1 (fun _ z => by cases z), h2, fun pos cv hc => ?_⟩
  obtain ⟨c, e1, e2⟩ := h3 pos cv hc
  exact ⟨c, e1, ne _ _ e2 (fun xs z => by unfold LamX.CodeO at z; cases z)⟩
theorem Spr.put {H : Hp} {s D : Addr} {n : Nat} {o : HO} (h : Spr H s n) (ne : D ≠ s) : Spr (upd H D o) s n := by
  obtain ⟨x, y, z, e, q⟩ := h.ex
  exact ⟨x, y, z, by rw [upd_ne ne.symm]; exact e, q⟩
theorem ImAll.permM {α : Type} {f : α → PyData} {S : List Addr} {H : Hp} {xs ys : List V} (p : ys.Perm xs) : ∀ {es : List α}, ImAll S H xs (es.map f) → ∃ es' : List α, es'.Perm es ∧ ImAll S H ys (es'.map f) := by
  induction p with
  | nil => intro es h; exact ⟨es, .refl _, h⟩
  | cons x p ih =>
    intro es h
    cases es with
    | nil => cases h
    | cons e r =>
      cases h with
      | cons h1 h2 =>
        obtain ⟨r', pr, h3⟩ := ih h2
        exact ⟨e :: r', .cons _ pr, .cons h1 h3⟩
  | swap x y l =>
    intro es h
    cases es with
    | nil => cases h
    | cons e r =>
      cases h with
      | cons h1 h2 =>
        cases r with
        | nil => cases h2
        | cons e2 r2 =>
          cases h2 with
          | cons h3 h4 => exact ⟨e2 :: e :: r2, .swap _ _ _, .cons h3 (.cons h1 h4)⟩
  | trans p1 p2 ih1 ih2 =>
    intro es h
    obtain ⟨e1, q1, h1⟩ := ih2 h
    obtain ⟨e2, q2, h2⟩ := ih1 h1
    exact ⟨e2, q2.trans q1, h2⟩
theorem kv_perm {ds es : List (PyData × PyData)} (p : es.Perm ds) : okRKv es = okRKv ds ∧ rlKv es = rlKv ds ∧ PyData.depthKv es = PyData.depthKv ds ∧ smKv es = smKv ds := by
  induction p with
  | nil => exact ⟨rfl, rfl, rfl, rfl⟩
  | cons x p ih =>
    obtain ⟨k, v⟩ := x
    obtain ⟨h1, h2, h3, h4⟩ := ih
    exact ⟨by rw [okRKv, okRKv, h1], by rw [rlKv, rlKv, h2], by rw [PyData.depthKv, PyData.depthKv, h3], by rw [smKv, smKv, h4]⟩
  | swap x y l =>
    obtain ⟨k, v⟩ := x
    obtain ⟨k2, v2⟩ := y
    refine ⟨?_, ?_, ?_, ?_⟩
    · simp only [okRKv]; ac_rfl
    · simp only [rlKv]; omega
    · simp only [PyData.depthKv]; omega
    · simp only [smKv]; ac_rfl
  | trans _ _ a b => exact ⟨a.1.trans b.1, a.2.1.trans b.2.1, a.2.2.1.trans b.2.2.1, a.2.2.2.trans b.2.2.2⟩
theorem okd_perm {ds es : List (PyData × PyData)} (p : es.Perm ds) (o : Okd (.dict ds)) : Okd (.dict es) := by
  obtain ⟨h1, h2, h3, h4⟩ := kv_perm p
  obtain ⟨a, b, c, d⟩ := o
  refine ⟨?_, ?_, ?_, ?_⟩
  · rw [okR] at a ⊢; rw [h1]; exact a
  · rw [rl] at b ⊢; rw [h2]; exact b
  · rw [PyData.depth] at c ⊢; rw [h3]; exact c
  · rw [sm] at d ⊢; rw [h4, p.length_eq]; exact d
theorem isMapB_by {h h2 t : Int} {A B : Arcs} {ys zs : List Str} {d : PyData} (py : ys.Perm (A.map (·.1))) (pz : zs.Perm (B.map (·.1))) (ndA : (A.map (·.1)).Nodup) (ndB : (B.map (·.1)).Nodup) :
    isMapB h (arcsBy A ys) h2 (arcsBy B zs) t d = isMapB h A h2 B t d := by
  cases d with
  | dict ds =>
    have la : (arcsBy A ys).length = A.length := by unfold arcsBy; rw [List.length_map, py.length_eq, List.length_map]
    have lb : (arcsBy B zs).length = B.length := by unfold arcsBy; rw [List.length_map, pz.length_eq, List.length_map]
    rw [isMap_by (A := arcsBy A ys) (ys := ys) (by rw [arcsBy_names]), isMap_by (A := A) py, la, lb]
    have e : ys.all (stepB h (arcsBy A ys) (arcsBy B zs) t ds) = ys.all (stepB h A B t ds) := by
      rw [Bool.eq_iff_iff, List.all_eq_true, List.all_eq_true]
      refine forall_congr' fun n => forall_congr' fun hn => ?_
      unfold stepB
      cases imgD ds n with
      | none => rfl
      | some m =>
        dsimp only
        rw [arcsBy_names, arcOf_perm ndA (arcsBy_perm ndA py) (py.mem_iff.mp hn)]
        by_cases hm : m ∈ zs
        · rw [arcOf_perm ndB (arcsBy_perm ndB pz) (pz.mem_iff.mp hm), decide_eq_true hm, decide_eq_true (pz.mem_iff.mp hm)]
        · rw [decide_eq_false hm, decide_eq_false (fun z => hm (pz.mem_iff.mpr z))]
          rfl
    rw [e]
  | _ => rfl
/-- all but s and the tables stay -/
structure Nt (s : Addr) (H H' : Hp) : Prop where
  kp : ∀ b o, b ≠ s → H b = some o → (∀ ps, o ≠ .tbl ps) → H' b = some o
theorem Nt.rx {s : Addr} {H H' : Hp} (g : Nt s H H') : Rx [s] H H' := fun a u hs nf r => by
  rcases r with e | ⟨o, e⟩
  · exact .inl (g.kp a _ (by simpa using hs) e nf.tb)
  · exact .inr ⟨o, g.kp a _ (by simpa using hs) e (fun ps z => by cases z)⟩
theorem Nt.ofN {s : Addr} {H H' : Hp} (g : Nx [s] H H') : Nt s H H' := ⟨fun b o hb e _ => g.kp b o (by simpa using hb) e⟩
theorem Nt.ofE {s : Addr} {H H' : Hp} (g : LamX.ExtN H H') : Nt s H H' := ⟨fun b o _ e n => g b o e n⟩
theorem Nt.trans {s : Addr} {H H1 H2 : Hp} (a : Nt s H H1) (b : Nt s H1 H2) : Nt s H H2 := ⟨fun c o hc e n => b.kp c o hc (a.kp c o hc e n) n⟩
end RG

/-! facts carried to a later heap, in the form that the macros nx, fx ask -/
namespace RG
open PySem PySem.Spec PyProof.Rows L2
/-- none goes -/
def Th (H H' : Hp) : Prop := ∀ a, H a ≠ none → H' a ≠ none
theorem Th.refl (H : Hp) : Th H H := fun _ h => h
theorem Th.step {T : List Addr} {H H1 H' : Hp} (b : Nx T H1 H') (a : Th H H1) : Th H H' := fun c h => b.th c (a c h)
theorem Th.newP {H H1 : Hp} {p : Addr} {o : HO} (a : Th H H1) : Th H (upd H1 p o) := fun c h => by
  by_cases e : c = p
  · subst e; rw [upd_same]; simp
  · rw [upd_ne e]; exact a c h
section
variable {S T : List Addr} {H H' : Hp}
theorem no_to {p : Addr} (h : H' p = none) (g : Th H H') : H p = none := by
  cases e : H p with
  | none => rfl
  | some o => exact absurd h (g p (by rw [e]; simp))
theorem Al.to (h : Al S H) (g : Th H H') : Al S H' := fun a ha => g a (h a ha)
theorem Al.add {D : Addr} (h : H D ≠ none) (a : Al S H) : Al (D :: S) H := fun x hx => (List.mem_cons.mp hx).elim (fun e => by rw [e]; exact h) (a x)
theorem al_at {p : Addr} {o : HO} (e : H p = some o) : H p ≠ none := by rw [e]; simp
theorem upd_ne_none {p : Addr} {o : HO} : upd H p o p ≠ none := by rw [upd_same]; simp
theorem al_to {p : Addr} (h : H p ≠ none) (g : Th H H') : H' p ≠ none := g p h
theorem Spr.ne {s a : Addr} {n : Nat} (h : Spr H s n) (na : H a = none) : a ≠ s := fun z => h.al (by rw [← z]; exact na)
theorem Im.to {v : V} {d : PyData} (h : Im S H v d) (hT : ∀ a ∈ T, a ∈ S ∨ H a = none) (g : Nx T H H') : Im T H' v d := (Im.sub hT d h).nx g
theorem ImAll.to {v : List V} {d : List PyData} (h : ImAll S H v d) (hT : ∀ a ∈ T, a ∈ S ∨ H a = none) (g : Nx T H H') : ImAll T H' v d := (ImAll.sub hT d h).nx g
theorem ImKv.to {v : List (Key × V)} {d : List (PyData × PyData)} (h : ImKv S H v d) (hT : ∀ a ∈ T, a ∈ S ∨ H a = none) (g : Nx T H H') : ImKv T H' v d := (ImKv.sub hT d h).nx g
theorem RingR.to {C a : Addr} {n : Int} {A : Arcs} (h : RingR S H C a n A) (hT : ∀ a ∈ T, a ∈ S ∨ H a = none) (g : Nx T H H') : RingR T H' C a n A := (RingR.sub hT h).nx g
theorem Spr.to {s : Addr} {n m : Nat} (h : Spr H s n) (g : Nx [] H H') (l : n ≤ m) : Spr H' s m := (h.nx g (by simp)).le l
theorem at_to {a : Addr} {o : HO} (e : H a = some o) (hs : a ∉ S) (g : Nx S H H') : H' a = some o := g.kp a o hs e
theorem Rd.to {a : Addr} {u : HO} (r : Rd H a u) (nf : NF u) (hs : a ∉ S) (g : Nx S H H') : Rd H' a u := g.rx a u hs nf r
theorem Nx.fresh' {p : Addr} (h : H' p = none) (g : Nx S H H') : H p = none := g.fresh h
theorem tabs_to {Tb : List (Addr × Str)} (t : LamX.Tabs Tb H) (g : Nx [] H H') : LamX.Tabs Tb H' := t.ext fun b o e => g.kp b o (by simp) e
theorem Nx.step {H1 : Hp} (b : Nx T H1 H') (h : ∀ x ∈ T, x ∈ S) (a : Nx S H H1) : Nx S H H' := a.trans (b.mono h)
/-- written at D, new since H -/
theorem Nx.drop' {D : Addr} {H1 : Hp} (n : H1 D = none) (b : Nx (D :: S) H1 H') (a : Nx S H H1) : Nx S H H' := a.trans (b.drop n)
theorem sub_nil : ∀ x ∈ ([] : List Addr), x ∈ S := fun _ z => absurd z (by simp)
theorem sub_one {s : Addr} (h : s ∈ S) : ∀ x ∈ [s], x ∈ S := fun x hx => by rw [List.mem_singleton.mp hx]; exact h
theorem sub_cons {s : Addr} (h : s ∈ S) (g : ∀ x ∈ T, x ∈ S) : ∀ x ∈ s :: T, x ∈ S := fun x hx => (List.mem_cons.mp hx).elim (fun e => by rw [e]; exact h) (g x)
theorem sub_tl {s : Addr} (g : ∀ x ∈ T, x ∈ S) : ∀ x ∈ T, x ∈ s :: S := fun x hx => List.mem_cons_of_mem _ (g x hx)
theorem sub_self : ∀ x ∈ S, x ∈ S := fun _ h => h
theorem ap_nil : ∀ a ∈ ([] : List Addr), a ∈ S ∨ H a = none := fun _ z => absurd z (by simp)
theorem ap_self : ∀ a ∈ S, a ∈ S ∨ H a = none := fun _ h => .inl h
theorem ap_cons {D : Addr} (n : H D = none) (h : ∀ a ∈ T, a ∈ S ∨ H a = none) : ∀ a ∈ D :: T, a ∈ S ∨ H a = none := fun a ha => (List.mem_cons.mp ha).elim (fun e => .inr (by rw [e]; exact n)) (h a)
theorem ap_in {D : Addr} (n : D ∈ S) (h : ∀ a ∈ T, a ∈ S ∨ H a = none) : ∀ a ∈ D :: T, a ∈ S ∨ H a = none := fun a ha => (List.mem_cons.mp ha).elim (fun e => .inl (by rw [e]; exact n)) (h a)
theorem ap_sub (h : ∀ x ∈ T, x ∈ S) : ∀ a ∈ T, a ∈ S ∨ H a = none := fun a ha => .inl (h a ha)
theorem ni_one {a s : Addr} (h : a ≠ s) : a ∉ [s] := by simpa using h
theorem ni_of {a s : Addr} (h : a ∉ S) (hs : s ∈ S) : a ∉ [s] := fun z => h (by rw [List.mem_singleton.mp z]; exact hs)
theorem ni_nil {a : Addr} : a ∉ ([] : List Addr) := by simp
theorem ni_cons {a s : Addr} (h : a ≠ s) (g : a ∉ S) : a ∉ s :: S := fun z => (List.mem_cons.mp z).elim h g
theorem Im.ref_ni {p : Addr} {d : PyData} (h : Im S H (.ref p) d) : p ∉ S := by cases h <;> assumption
theorem Im.ref_al {p : Addr} {d : PyData} (h : Im S H (.ref p) d) : H p ≠ none := by cases h <;> exact rd_some (by assumption)
/-- a list that the law got, read whatever is made or drawn -/
theorem sql_all {K : PySem.W.Frag} {a : Addr} {xs : List V} (h : SqL K H a xs) : ∃ R : Hp → Prop, R H ∧ (∀ H', R H' → SqL K H' a xs) ∧ ∀ s H1 H2, H1 s = none → R H1 → Rx [s] H1 H2 → R H2 := by
  rcases h with h | h
  · exact ⟨fun H => Rd H a (.lst xs), h, fun _ r => .inl r, fun s H1 H2 n r g => g a _ (by rintro z; rw [List.mem_singleton.mp z] at r; exact rd_some r n) .l r⟩
  · exact ⟨fun _ => True, trivial, fun _ _ => .inr h, fun _ _ _ _ _ _ => trivial⟩
end
theorem ImAll.drop {S : List Addr} {H : Hp} : ∀ (n : Nat) {vs : List V} {ds : List PyData}, ImAll S H vs ds → ImAll S H (vs.drop n) (ds.drop n)
  | 0, _, _, h => h
  | _ + 1, _, _, .nil => .nil
  | n + 1, _, _, .cons _ t => ImAll.drop n t
theorem ArcsOk.sub {h : Int} {A B : Arcs} (o : ArcsOk h A) (s : B.Sublist A) : ArcsOk h B :=
  ⟨fun a ha => o.names a (s.mem ha), o.nd.sublist (s.map _), fun a ha => o.st a (s.mem ha), fun a ha => o.ln a (s.mem ha)⟩
theorem kvs_drop (n : Nat) (A : Arcs) : kvsD (A.drop n) = (kvsD A).drop n := by unfold kvsD; rw [List.map_drop]
theorem cut_from {xs : List V} (n : Nat) : cutV xs (some (n : Int)) none = xs.drop n := by
  unfold cutV
  rw [HT.sIx_none, HT.sIx_nat]
  by_cases h : n ≤ xs.length
  · rw [Nat.min_eq_left h]
    exact List.take_of_length_le (by rw [List.length_drop]; omega)
  · rw [Nat.min_eq_right (by omega), List.drop_eq_nil_of_le (Nat.le_refl _), List.drop_eq_nil_of_le (by omega)]
    simp
theorem cut1 {xs : List V} : cutV xs (some 1) none = xs.drop 1 := cut_from 1
/-- list(d.items()) of data -/
theorem s_itemsD {S : List Addr} {H : Hp} {P : Addr → Hp → Prop} {v : V} {ds : List (PyData × PyData)} (i : Im S H v (.dict ds)) (al : Al S H) (h : ∀ (l : Addr) (vs : List V) (H' : Hp), H l = none → l ∉ S → Nx [] H H' → H' l = some (.lst vs) → ImAll S H' vs (ds.map fun p => .tuple [p.1, p.2]) → P l H') :
    ∃ (d : Addr) (kvs : List (Key × V)), v = .ref d ∧ Rd H d (.dK kvs) ∧ ∀ (H' : Hp) (l : Addr) (as : List Addr), (∀ b o, H b = some o → H' b = some o) → H l = none → (∀ t ∈ as, H t = none) → l ∉ as → H' l = some (.lst (as.map V.ref)) → Paired (fun (t : Addr) (q : Key × V) => H' t = some (.tup [kV q.1, q.2])) as kvs → P l H' := by
  cases i with
  | @dct a kvs _ na ra nd ik =>
  exact ⟨a, kvs, rfl, ra, fun H' l as e nl nas nla el pr => h l _ H' nl (al.ne nl) (.ofSame e) el (ImAll.items e (fun a ha => .inl ha) ik pr fun t ht => al.ne (nas t ht))⟩
/-- a slice of a new list -/
theorem s_slL {K : PySem.W.Frag} {S : List Addr} {H : Hp} {Q : VK} {l : Addr} {vs : List V} {lo hi : Option Int} {ds : List PyData} (el : H l = some (.lst vs)) (im : ImAll S H vs ds) (al : Al S H) (ws : List V) (es : List PyData) (hw : cutV vs lo hi = ws) (he : ImAll S H ws es)
    (h : ∀ (p : Addr) (H' : Hp), H p = none → p ∉ S → Nx [] H H' → H' p = some (.lst ws) → ImAll S H' ws es → Q (.ref p) H') : rSlL K (.ref l) lo hi H Q :=
  ⟨l, vs, rfl, .of el, fun p np => by rw [hw]; exact h p _ np (al.ne np) (.new np) upd_same (he.nx (.new np))⟩
/-- the image's dict: not empty -/
theorem tru_im {K : PySem.W.Frag} {S : List Addr} {H : Hp} {v : V} {ds : List (PyData × PyData)} (i : Im S H v (.dict ds)) : TruU K v H (!ds.isEmpty) := by
  cases i with
  | @dct a kvs _ na ra nd ik => exact .inr ⟨a, kvs, rfl, ra, by cases ik <;> rfl⟩
/-- dict(d) of data -/
theorem s_dictD {S : List Addr} {H : Hp} {Q : VK} {v : V} {ds : List (PyData × PyData)} (i : Im S H v (.dict ds)) (al : Al S H) (h : ∀ (p : Addr) (H' : Hp), H p = none → p ∉ S → Nx [] H H' → Im S H' (.ref p) (.dict ds) → Q (.ref p) H') : rDictD [v] H Q := by
  cases i with
  | @dct a kvs _ na ra nd ik => exact ⟨a, kvs, rfl, ra, fun p np => h p _ np (al.ne np) (.new np) (.dct (al.ne np) (.inl upd_same) nd (ik.nx (.new np)))⟩
/-- {a: (x, y), b: (z, w)}, just made -/
theorem disp2_arcs {S : List Addr} {H : Hp} {p t1 t2 : Addr} {a b : Str} {x y z w : Int} (al : Al S H) (np : H p = none) (n1 : (upd H p (.dK [])) t1 = none) (n2 : (upd (upd H p (.dK [])) t1 (.tup [.int x, .int y])) t2 = none) (ab : a ≠ b) :
    (upd (upd (upd H p (.dK [])) t1 (.tup [.int x, .int y])) t2 (.tup [.int z, .int w])) p = some (.dK []) ∧
    Im S (upd (upd (upd (upd H p (.dK [])) t1 (.tup [.int x, .int y])) t2 (.tup [.int z, .int w])) p (.dK (mergeK [] [(.inr a, .ref t1), (.inr b, .ref t2)]))) (.ref p) (arcsD [(a, x, y), (b, z, w)]) ∧
    Nx [] H (upd (upd (upd (upd H p (.dK [])) t1 (.tup [.int x, .int y])) t2 (.tup [.int z, .int w])) p (.dK (mergeK [] [(.inr a, .ref t1), (.inr b, .ref t2)]))) := by
  have p1 : p ≠ t1 := fun e => by rw [← e, upd_same] at n1; cases n1
  have p2 : p ≠ t2 := fun e => by rw [← e, upd_ne p1, upd_same] at n2; cases n2
  have h12 : t1 ≠ t2 := fun e => by rw [← e, upd_same] at n2; cases n2
  have m1 : H t1 = none := by rw [upd_ne p1.symm] at n1; exact n1
  have m2 : H t2 = none := by rw [upd_ne h12.symm, upd_ne p2.symm] at n2; exact n2
  have nd : (([(.inr a, .ref t1), (.inr b, .ref t2)] : List (Key × V)).map (·.1)).Nodup := by
    simp only [List.map_cons, List.map_nil, List.nodup_cons, List.mem_singleton, List.not_mem_nil, not_false_eq_true, List.nodup_nil, and_true]
    exact fun e => ab (by injection e)
  refine ⟨by rw [upd_ne p2, upd_ne p1, upd_same], ?_, (((Nx.new (S := [p]) np).newP n1).newP n2).putP (by simp) |>.drop np⟩
  rw [merge_nil nd]
  refine .dct (al.ne np) (.inl upd_same) nd (.cons (k := .inr a) ?_ (.cons (k := .inr b) ?_ .nil))
  · exact Im.pair (al.ne m1) (by rw [upd_ne p1.symm, upd_ne h12, upd_same])
  · exact Im.pair (al.ne m2) (by rw [upd_ne p2.symm, upd_same])
theorem disp2_strs {S : List Addr} {H : Hp} {p : Addr} {a b x y : Str} (al : Al S H) (np : H p = none) (ab : a ≠ b) :
    (upd H p (.dK [])) p = some (.dK []) ∧ Im S (upd (upd H p (.dK [])) p (.dK (mergeK [] [(.inr a, .str x), (.inr b, .str y)]))) (.ref p) (strsD [(a, x), (b, y)]) ∧ Nx [] H (upd (upd H p (.dK [])) p (.dK (mergeK [] [(.inr a, .str x), (.inr b, .str y)]))) := by
  have nd : (([(.inr a, .str x), (.inr b, .str y)] : List (Key × V)).map (·.1)).Nodup := by
    simp only [List.map_cons, List.map_nil, List.nodup_cons, List.mem_singleton, List.not_mem_nil, not_false_eq_true, List.nodup_nil, and_true]
    exact fun e => ab (by injection e)
  rw [merge_nil nd]
  exact ⟨upd_same, .dct (al.ne np) (.inl upd_same) nd (.cons (k := .inr a) (.str x) (.cons (k := .inr b) (.str y) .nil)), ((Nx.new (S := [p]) np).putP (by simp)).drop np⟩
/-- nothing walks over it now -/
def Unl (H : Hp) : V → Prop
  | .ref a => ∀ o u, H a ≠ some (.frz o u)
  | _ => True
/-- no key ' late ' -/
def NoLate (d : PyData) : Prop := ∀ ds, d = .dict ds → ∀ p ∈ ds, p.1 ≠ .str " late "
theorem isMapB_len {h h2 t : Int} {A B : Arcs} {d : PyData} (n : A.length ≠ B.length) : isMapB h A h2 B t d = false := by
  cases d with
  | dict ds => rw [isMapB, decide_eq_false n]; simp
  | _ => rfl
theorem isMapB_hours {h h2 t : Int} {A B : Arcs} {d : PyData} (n : h ≠ h2) : isMapB h A h2 B t d = false := by
  cases d with
  | dict ds => rw [isMapB, decide_eq_false n]; simp
  | _ => rfl
end RG

/-! the end of a law whose def's promise holds only where G holds of the surroundings; ts: tables of code objects that grow -/
namespace RG
open PySem PySem.Spec PyProof.Rows L2
/-- what stands in the heap when the law is called: the script at a, empty tables at ts -/
structure Start (K : PySem.W.Frag) (h : Heap) (a : Addr) (its : List Value) (ns : List Int) (ts : List Addr) : Prop where
  sc : h.get? a = some { cls := .type "list", data := .seq its.toArray }
  isI : IntsAre its ns
  few : ns.length ≤ sizeLine
  tab : ∀ t ∈ ts, h.get? t = some { cls := .none, data := .fields #[] }
  out : ∀ t ∈ ts, K.lookup t = none
/-- what is tracked of it -/
def trackH (K : PySem.W.Frag) (a : Addr) (its : List Value) (ns : List Int) (ts : List Addr) : Hp := fun b =>
  if b ∈ ts then some (.tbl #[]) else if b = a ∧ K.lookup a = none then some (.frz { cls := .type "list", data := .seq its.toArray } (.lst (ns.map V.int))) else none
section
variable {P : Program} {w : World} {K : PySem.W.Frag} {h : Heap} {a : Addr} {its : List Value} {ns : List Int} {ts : List Addr}
theorem track_t {b : Addr} (hb : b ∈ ts) : trackH K a its ns ts b = some (.tbl #[]) := if_pos hb
theorem track_cases (b : Addr) : (b ∈ ts ∧ trackH K a its ns ts b = some (.tbl #[])) ∨ (b = a ∧ K.lookup a = none ∧ trackH K a its ns ts b = some (.frz { cls := .type "list", data := .seq its.toArray } (.lst (ns.map V.int)))) ∨ trackH K a its ns ts b = none := by
  unfold trackH
  by_cases h1 : b ∈ ts
  · exact .inl ⟨h1, if_pos h1⟩
  · by_cases h2 : b = a ∧ K.lookup a = none
    · exact .inr (.inl ⟨h2.1, h2.2, by rw [if_neg h1, if_pos h2]⟩)
    · exact .inr (.inr (by rw [if_neg h1, if_neg h2]))
theorem Start.apart (S : Start K h a its ns ts) : a ∉ ts := fun z => by
  have e := (S.tab a z).symm.trans S.sc
  injection e with e
  have e2 : Data.fields #[] = Data.seq its.toArray _ := congrArg Obj.data e
  cases e2
theorem Start.hok (S : Start K h a its ns ts) : HOk P w (trackH K a its ns ts) h := fun b u e => by
  rcases track_cases (K := K) (a := a) (its := its) (ns := ns) (ts := ts) b with ⟨h1, h2⟩ | ⟨rfl, _, h2⟩ | h2
  · rw [h2] at e; cases e; exact S.tab b h1
  · rw [h2] at e; cases e
    exact ⟨S.sc, by rw [List.length_map]; exact S.few, its, _, vals_ints S.isI, S.sc⟩
  · rw [h2] at e; cases e
theorem Start.sql (S : Start K h a its ns ts) (KX : K.In h) : SqL K (trackH K a its ns ts) a (ns.map V.int) := by
  cases e : K.lookup a with
  | none =>
    refine .inl (.inr ⟨{ cls := .type "list", data := .seq its.toArray }, ?_⟩)
    unfold trackH
    rw [if_neg S.apart, if_pos ⟨rfl, e⟩]
  | some o =>
    have e2 := KX a o e
    rw [S.sc] at e2
    cases e2
    exact .inr ⟨_, its.toArray, _, e, rfl, rfl, rfl, by rw [List.size_toArray, S.isI.length]; exact S.few, by simpa using vals_ints S.isI⟩
/-- an object of another kind is not tracked -/
theorem Start.free (S : Start K h a its ns ts) {b : Addr} {o : Obj} (e : h.get? b = some o) (h1 : ∀ vs n, o.data ≠ .seq vs n) (h2 : o.data ≠ .fields #[]) : trackH K a its ns ts b = none := by
  rcases track_cases (K := K) (a := a) (its := its) (ns := ns) (ts := ts) b with ⟨z, _⟩ | ⟨rfl, _⟩ | z
  · rw [S.tab b z] at e; cases e; exact absurd rfl h2
  · rw [S.sc] at e; cases e; exact absurd rfl (h1 _ _)
  · exact z
theorem Start.dict (S : Start K h a its ns ts) {b : Addr} {m : Str → Option Value} (n : h.Ns b m) : (hidT h (trackH K a its ns ts)).Ns b m := by
  obtain ⟨o, es, ep, e, d, r⟩ := n
  exact ⟨o, es, ep, hidT_get e (S.free e (fun _ _ z => by rw [d] at z; cases z) (fun z => by rw [d] at z; cases z)), d, r⟩
theorem Start.frag (S : Start K h a its ns ts) (KX : K.In h) : K.In (hidT h (trackH K a its ns ts)) := fun b o e => by
  refine hidT_get (KX b o e) ?_
  rcases track_cases (K := K) (a := a) (its := its) (ns := ns) (ts := ts) b with ⟨z, _⟩ | ⟨rfl, n, _⟩ | z
  · rw [S.out b z] at e; cases e
  · rw [n] at e; cases e
  · exact z
end
/-- the module's __builtins__ -/
def BmIn (h : Heap) (mg : Str → Option Value) : Prop := ∃ (bm : Addr) (ob : Obj), mg "__builtins__" = some (.ref bm) ∧ bm ≠ builtinsNs ∧ h.get? bm = some ob ∧ ob.cls = .type "module" ∧ ob.dict = some builtinsNs ∧ ob.data = .plain
section
variable {G : Around → Prop} {P : Program} {w : World} {K : PySem.W.Frag} {mg mb : Str → Option Value} {fa a : Addr} {cs : List (Addr × Addr)} {fd : FuncData} {x : Str} {sp : Sp} {s : Shared} {its : List Value} {ns : List Int}
theorem Start.tabB (S : Start K s.heap a its ns (cs.map (·.2))) (hns : s.heap.Ns mainGlobals mg) (hbm : BmIn s.heap mg) {p : Addr × Addr} (hp : p ∈ cs) (C : PySem.W.CodeHd s.heap p.1 p.2) : LamX.TabB (hidT s.heap (trackH K a its ns (cs.map (·.2)))) mg p.1 p.2 := by
  have hT := S.tab p.2 (List.mem_map_of_mem hp)
  have gNe : mainGlobals ≠ p.2 := fun z => by
    obtain ⟨o, es, ep, e, d, _⟩ := hns
    rw [z, hT] at e; cases e; cases d
  obtain ⟨bm, ob, b1, b2, b3, b4, b5, b6⟩ := hbm
  have fr := S.free b3 (fun _ _ z => by rw [b6] at z; cases z) (fun z => by rw [b6] at z; cases z)
  obtain ⟨o, vs, file, tf, fl, tg, inF, tx, tt, c1, c2, c3, c4, c5, c6, c7, c8, c9, c10⟩ := C
  have fr2 := S.free c1 (fun _ _ z => by rw [c3] at z; cases z) (fun z => by rw [c3] at z; cases z; simp at c4)
  refine ⟨⟨o, vs, file, tf, fl, tg, inF, tx, tt, hidT_get c1 fr2, c2, c3, c4, c5, c6, c7, c8, c9, c10⟩, ⟨bm, ob, b1, b2, fun z => ?_, fun z => ?_, hidT_get b3 fr, b4, b5, b6⟩, gNe⟩
  · obtain ⟨o2, es, ep, e, d, _⟩ := hns
    rw [← z, b3] at e; cases e; rw [b6] at d; cases d
  · rw [z, hT] at b3; cases b3; cases b6
theorem callA (KX : K.In s.heap) (hns : s.heap.Ns mainGlobals mg) (hb : s.heap.Ns builtinsNs mb) (hbb : ∀ x : Str, x ≠ "__name__" → mb x = bootBuiltins x) (hlim : s.heap.NoLimit) (hg : s.gens = #[]) (S : Start K s.heap a its ns (cs.map (·.2)))
    (C : ∀ p ∈ cs, PySem.W.CodeHd s.heap p.1 p.2) (hbm : BmIn s.heap mg) (gA : G callerA) (F : ∀ base : Heap, K.In base → base.Ns mainGlobals mg → (∀ p ∈ cs, LamX.TabB base mg p.1 p.2) → FnA G P w K mg base fa fd [x] sp)
    (hbind : ∀ (s : Shared) (u : Value), BindsTo s fd ⟨[u], []⟩ [(x, u)]) (hsp : ∀ H : Hp, (∀ p ∈ cs, H p.2 = some (.tbl #[])) → SqL K H a (ns.map V.int) → sp [.ref a] H (fun v _ => v = .bl true) E0) :
    codeAny (model P w) callerA (.call (.ref fa) ⟨[.ref a], []⟩) (fun r s' => r = .ok (.ret (.bool true)) ∧ OldK s.heap s'.heap ∧ s'.os = s.os ∧ AllBare s'.gens) s := by
  have kin := S.frag KX
  have glob := S.dict hns
  have lim : (hidT s.heap (trackH K a its ns (cs.map (·.2)))).NoLimit := by
    obtain ⟨mc, h1, h2⟩ := hlim
    exact ⟨mc, S.dict h1, h2⟩
  have env : Env0 P w K mg (hidT s.heap (trackH K a its ns (cs.map (·.2)))) callerA [] s (trackH K a its ns (cs.map (·.2))) :=
    { frames := rfl, mod := { kin := kin, glob := glob, blt := ⟨mb, S.dict hb, hbb⟩, nolimit := lim }, bs := fun b o e => of_hidT e, bsz := by rw [hidT_size]; exact Nat.le_refl _, funs := trivial, frf := fun b hb => absurd hb (List.not_mem_nil), hok := S.hok, bare := .of_eq hg }
  have run := (F _ kin glob fun p hp => S.tabB hns hbm hp (C p hp)).run callerA [] s _ ⟨[.ref a], []⟩ [.ref a] [.ref a] _ gA env (hbind s _) (.cons rfl .nil) (hsp _ (fun p hp => track_t (List.mem_map_of_mem hp)) (S.sql KX))
  refine codeAny_mono run fun r s' z => ?_
  rcases r with e | fl
  · exact False.elim z
  cases fl with
  | next => exact False.elim z
  | brk => exact False.elim z
  | cont => exact False.elim z
  | ret u =>
    obtain ⟨v, H', os, bare, un, hok', ru, qv⟩ := z
    obtain rfl : v = .bl true := qv
    obtain rfl : u = Value.bool true := ru
    have stays : ∀ b o, s.heap.get? b = some o → (b ∉ cs.map (·.2) ∧ s'.heap.get? b = some o) ∨ (b ∈ cs.map (·.2) ∧ o = { cls := .none, data := .fields #[] } ∧ ∃ more : Array Value, s'.heap.get? b = some { cls := .none, data := .fields more }) := fun b o e => by
      rcases track_cases (K := K) (a := a) (its := its) (ns := ns) (ts := cs.map (·.2)) b with ⟨h1, h2⟩ | ⟨rfl, _, h2⟩ | h2
      · obtain ⟨more, hm⟩ := un.tbls b #[] h2
        have e2 := S.tab b h1
        rw [e] at e2
        exact .inr ⟨h1, Option.some.inj e2, _, hok' b _ hm⟩
      · refine .inl ⟨S.apart, ?_⟩
        rw [S.sc] at e
        cases e
        exact (hok' b _ (un.frzs b _ _ h2)).1
      · by_cases hb : b ∈ cs.map (·.2)
        · rw [track_t hb] at h2; cases h2
        · exact .inl ⟨hb, un.keep b o e h2 (List.not_mem_nil) (List.not_mem_nil)⟩
    refine ⟨rfl, ⟨fun b o e => ?_, fun b o e => ?_⟩, os, bare⟩
    · rcases stays b o e with ⟨_, q⟩ | ⟨hb, eo, more, q⟩
      · exact .inl q
      · obtain ⟨p, hp, rfl⟩ := List.mem_map.mp hb
        subst eo
        exact .inr (.inl ⟨((C p hp).tab (S.tab p.2 hb)).isCodeTable, rfl, #[], more, rfl, by rw [Array.empty_append]; exact q⟩)
    · rcases stays b o e with ⟨_, q⟩ | ⟨_, _, more, q⟩
      · exact ⟨_, q⟩
      · exact ⟨_, q⟩
end
/-- the walk of a law: F tells, of the head's heap, the written part, the tables, the def and its promise -/
theorem walkA {l : PySem.W.OpenLaw} {n : Nat} {q : Program} {loose : List Str} {XP : (Str → Option Value) → Heap → Prop} {YP : World → Heap → Prop} {d : DefRec} {x : Str} {G : Around → Prop} (hn : l.most = some n) (hn2 : n ≤ sizeLine) (hdf : d.params.defaults = []) (gA : G callerA)
    (F : ∀ (w : World) (mg : Str → Option Value) (fa : Addr) (h : Heap), YP w h → h.Ns mainGlobals mg → mg d.name = some (.ref fa) →
      ∃ (K : PySem.W.Frag) (fd : FuncData) (cs : List (Addr × Addr)) (sp : Sp), K.In h ∧ (∀ p ∈ cs, h.get? p.2 = some { cls := .none, data := .fields #[] }) ∧ (∀ p ∈ cs, K.lookup p.2 = none) ∧ (∀ p ∈ cs, PySem.W.CodeHd h p.1 p.2) ∧ (∀ (s : Shared) (u : Value), BindsTo s fd ⟨[u], []⟩ [(x, u)]) ∧
        (∀ (H : Hp) (a : Addr) (ns : List Int), ns.length ≤ n → (∀ z ∈ ns, Builtin.Int.intBits z ≤ 1048576) → (∀ p ∈ cs, H p.2 = some (.tbl #[])) → SqL K H a (ns.map V.int) → sp [.ref a] H (fun v _ => v = .bl true) E0) ∧
        ∀ base : Heap, K.In base → base.Ns mainGlobals mg → (∀ p ∈ cs, LamX.TabB base mg p.1 p.2) → FnA G l.prog w K mg base fa fd [x] sp) :
    PySem.W.WalkO q loose XP YP l.row.toRowW d [] (fun f vs => PySem.call f vs) := by
  refine Att.attach_callB hn hdf fun w s0 s1 mg mb fa o pm cd doc a vs ns Gr Y ho hd hcd hmg hobj hints hlen hbits hg => ?_
  obtain ⟨K, fd, cs, sp, KX, hT, nT, C, hb, hsp, hF⟩ := F w mg fa _ Y Gr.T.g hmg
  have S : Start K s1.heap a vs ns (cs.map (·.2)) := ⟨hobj, hints, Nat.le_trans hlen hn2, fun t ht => by obtain ⟨p, hp, rfl⟩ := List.mem_map.mp ht; exact hT p hp, fun t ht => by obtain ⟨p, hp, rfl⟩ := List.mem_map.mp ht; exact nT p hp⟩
  exact callA KX Gr.T.g Gr.T.b Gr.T.builtins Gr.T.nolimit hg S C Gr.T.bmain gA hF hb fun H h1 h2 => hsp H a ns hlen hbits h1 h2
end RG

/-! what the head tells: defs, classes, own errors, tables; beside what the module's names reach: two places of the machine -/
namespace RG
open PySem PySem.Spec PyProof.Rows L2
/-- an own error: its name, its field, its __init__ as written -/
structure ErrD where
  cls : Str
  fld : Str
  qual : Str
  params : Arguments
  body : List Stmt
  scope : Scope
abbrev FnE : Type := Option (Str × Str × Arguments × FuncBody × Scope × Addr × Value × Value × Addr)
def fnE (K : PySem.W.Frag) (a : Addr) : FnE := match K.lookup a with
  | some ⟨_, _, .func f, _⟩ => some (f.name, f.qualname, f.params, f.body, f.scope, f.globals, f.defaults, f.kwdefaults, f.builtins)
  | _ => none
namespace ErrD
def C (K : PySem.W.Frag) (d : ErrD) : Addr := He.ga K d.cls
def I (K : PySem.W.Frag) (d : ErrD) : Addr := He.ma K (He.ga K d.cls) "__init__"
def val (d : ErrD) : FnE := some ("__init__", d.qual, d.params, .stmts d.body, d.scope, mainGlobals, .none, .none, builtinsNs)
end ErrD
/-- the class's object -/
def clsB (K : PySem.W.Frag) (C : Addr) : Bool := match K.lookup C with
  | some ⟨.type t, _, .cls ⟨_, _, mro, _, _, hd, _, _, _, _, del⟩, sl⟩ => (match mro, sl.toList with
    | .ref C' :: bm, [_, _, _, _, some (.builtin n), _] => decide (t = "type") && (decide (C' = C) && (decide (n = "ValueError.__new__") && (hd && (!del && HandSPX.refsVE bm))))
    | _, _ => false)
  | _ => false
theorem clsB_ok {K : PySem.W.Frag} {C : Addr} (h : clsB K C = true) : ∃ nm q N bs bm sn sub ab col dd k0 k1 k2 k3 k5, K.lookup C = some (excClassObj nm q C N bs bm true sn sub ab col dd k0 k1 k2 k3 k5 "ValueError.__new__") ∧ HandSPX.refsVE bm = true := by
  unfold clsB at h
  split at h
  · rename_i t dd nm bs mro N q hd sn sub ab col del sl e
    split at h
    · rename_i C' bm k0 k1 k2 k3 n k5 hs
      simp only [Bool.and_eq_true, decide_eq_true_eq, Bool.not_eq_true'] at h
      obtain ⟨rfl, rfl, rfl, rfl, rfl, hb⟩ := h
      have : sl = #[k0, k1, k2, k3, some (.builtin "ValueError.__new__"), k5] := by
        obtain ⟨l⟩ := sl
        simp only at hs
        rw [hs]
      subst this
      exact ⟨_, _, _, _, _, _, _, _, _, _, _, _, _, _, _, e, hb⟩
    · cases h
  · cases h
/-- the closure of its __init__ holds the class; its code object names the file -/
def initB (file : Str) (K : PySem.W.Frag) (C a : Addr) (qual : Str) : Bool := match K.lookup a with
  | some ⟨_, _, .func f, _⟩ => (match f.closure, f.code with
    | [(x, cc)], .ref c => decide (x = "__class__") && (PySem.W.codeIn K (.ref c) qual && ((match K.lookup cc with
      | some ⟨_, _, .cell (some (.ref C')), _⟩ => decide (C' = C)
      | _ => false) && (match K.lookup c with
      | some ⟨_, _, .fields vs, _⟩ => (match (vs[2]? : Option Value) with
        | some (.str z _) => file == z
        | _ => false)
      | _ => false)))
    | _, _ => false)
  | _ => false
def errB (file : Str) (K : PySem.W.Frag) (d : ErrD) : Bool :=
  (He.eqO (PySem.W.nsIn K mainGlobals d.cls) (some (some (.ref (d.C K)))) && (clsB K (d.C K) && (He.eqO (PySem.W.findIn K (.ref (d.C K)) "__setattr__") (some (some (.builtin "object.__setattr__"))) && (decide (PySem.W.subIn K (.ref (d.C K)) (.type "BaseException") = some true) &&
  (decide (PySem.W.typeIn K (.ref (d.C K)) = some (.type "type")) && PySem.W.keepIn K (.ref (d.C K))))))) &&
  ((He.eqO (PySem.W.findIn K (.ref (d.C K)) d.fld) (some none) && (He.eqO (PySem.W.findIn K (.ref (d.C K)) "__init__") (some (some (.ref (d.I K)))) && (decide (PySem.W.typeIn K (.ref (d.I K)) = some (.type "function")) && initB file K (d.C K) (d.I K) d.qual))) &&
  ((decide (PySem.W.mroIn K (d.C K) (.ref (d.C K)) = some true) && (He.eqO (PySem.W.ks_superIn K (d.C K) (d.C K) "__init__") (some (some (.builtin "ValueError.__init__"))) && decide (PySem.W.subIn K (.ref (d.C K)) (.type "ValueError") = some true))) &&
  (He.eqO (PySem.W.findIn K (.ref (d.C K)) "__getattribute__") (some (some (.builtin "BaseException.__getattribute__"))) && (He.eqO (PySem.W.findIn K (.ref (d.C K)) "__getattr__") (some none) &&
  (PySem.W.hasDictIn K (d.C K) && (decide (PySem.W.exmOne K (.ref (d.C K)) (.ref (d.C K)) = some true) && He.eqO (PySem.W.nsIn K cStatics "thirdparty.any") (some none)))))))
theorem err_ok {P : Program} {K : PySem.W.Frag} {d : ErrD} (hb : errB P.main.file K d = true) (hv : fnE K (d.I K) = d.val) : ExF P K (d.C K) (d.I K) d.fld d.qual d.params d.body d.scope ∧ PySem.W.nsIn K mainGlobals d.cls = some (some (.ref (d.C K))) := by
  unfold errB at hb
  simp only [Bool.and_eq_true, decide_eq_true_eq] at hb
  obtain ⟨⟨a1, a2, a3, a4, a5, a6⟩, ⟨b1, b2, b3, b4⟩, ⟨c1, c2, c3⟩, c4, c5, c6, c7, c8⟩ := hb
  refine ⟨⟨⟨clsB_ok a2, He.eqO_ok a3, a4, a5, a6⟩, He.eqO_ok b1, He.eqO_ok b2, b3, ?_, c1, He.eqO_ok c2, c3, He.eqO_ok c4, He.eqO_ok c5, c6, c7, He.eqO_ok c8⟩, He.eqO_ok a1⟩
  unfold initB at b4
  unfold fnE at hv
  split at b4
  · rename_i oc od f osl e
    rw [e] at hv
    obtain ⟨n1, n2, n3, n4, n5, n6, n7, n8, n9, n10, n11, n12, n13, n14, n15⟩ := f
    unfold ErrD.val at hv
    simp only [Option.some.injEq, Prod.mk.injEq] at hv
    obtain ⟨rfl, h2, h3, h4, h5, rfl, rfl, rfl, rfl⟩ := hv
    subst h2 h3 h4 h5
    dsimp only at b4
    split at b4
    · rename_i x cc c
      simp only [Bool.and_eq_true, decide_eq_true_eq] at b4
      obtain ⟨rfl, d1, d2, d3⟩ := b4
      split at d2
      · rename_i ccl ccd C' csl e2
        obtain rfl : C' = d.C K := of_decide_eq_true d2
        split at d3
        · rename_i dcl dcd vs ccs e3
          split at d3
          · rename_i z tf e4
            exact ⟨_, _, _, _, _, _, _, _, _, e, d1, ⟨_, _, _, e2⟩, _, _, _, _, _, _, e3, e4, d3⟩
          · cases d3
        · cases d3
      · cases d2
    · cases b4
  · cases b4
/-! ### the look at the heap -/
def seeY (n : Nat) (g : Addr → Option Obj) : PySem.W.Frag := He.frT g (He.asD g n ++ [cStatics, sysModules])
/-- no error is of another's kind -/
def pairB (er : List ErrD) (K : PySem.W.Frag) : Bool := er.all fun d => er.all fun e => decide (d.cls = e.cls) || decide (PySem.W.exmOne K (.ref (d.C K)) (.ref (e.C K)) = some false)
abbrev AlY : Type := (He.AlD × List FnE) × Bool
def obsY (file : Str) (n : Nat) (fa : List He.Fa) (fn : List He.DefD) (er : List ErrD) (tf : List He.Defn) (g : Addr → Option Obj) : AlY :=
  ((He.obsD fa fn (seeY n g), er.map fun d => fnE (seeY n g) (d.I (seeY n g))), er.all (errB file (seeY n g)) && (pairB er (seeY n g) && (((seeY n g).lookup sysModules).isSome && He.tabsB g tf (seeY n g))))
/-- what is told -/
structure SaysY (file : Str) (fa : List He.Fa) (fn : List He.DefD) (er : List ErrD) (tf : List He.Defn) (h : Heap) (K : PySem.W.Frag) : Prop where
  d : He.SaysD fa fn K
  ev : er.map (fun d => fnE K (d.I K)) = er.map ErrD.val
  eb : er.all (errB file K) = true
  pr : pairB er K = true
  sys : (K.lookup sysModules).isSome = true
  tb : ∀ p ∈ tf, PySem.W.codeHdIn K (He.cT K p).1 (He.cT K p).2 = true ∧ K.lookup (He.cT K p).2 = none ∧ h.get? (He.cT K p).2 = some { cls := .none, data := .fields #[] }
theorem saysY_of {file : Str} {n : Nat} {fa : List He.Fa} {fn : List He.DefD} {er : List ErrD} {tf : List He.Defn} {h : Heap} (e : obsY file n fa fn er tf h.get? = ((He.valD fn, er.map ErrD.val), true)) : SaysY file fa fn er tf h (seeY n h.get?) := by
  unfold obsY at e
  rw [Prod.mk.injEq, Prod.mk.injEq] at e
  obtain ⟨⟨e1, e2⟩, e3⟩ := e
  rw [Bool.and_eq_true, Bool.and_eq_true, Bool.and_eq_true] at e3
  obtain ⟨e3, ep, e4, e5⟩ := e3
  refine ⟨e1, e2, e3, ep, e4, fun p hp => ?_⟩
  have z := List.all_eq_true.mp e5 p hp
  rw [Bool.and_eq_true] at z
  obtain ⟨z1, z2⟩ := z
  split at z2
  · rename_i o q
    refine ⟨z1, He.frT_none q z2, ?_⟩
    rw [He.emptyTab_eq z2] at q
    exact q
  · cases z2
def hookY (file : Str) (n : Nat) (fa : List He.Fa) (fn : List He.DefD) (er : List ErrD) (tf : List He.Defn) : PySem.W.Hook where
  α := AlY
  obs := fun s => obsY file n fa fn er tf s.heap.get?
  val := fun _ => ((He.valD fn, er.map ErrD.val), true)
  says := fun _ h => ∃ K : PySem.W.Frag, K.In h ∧ SaysY file fa fn er tf h K
  of := fun _ _ e => ⟨_, He.frT_in, saysY_of e⟩
  keeps := fun _ _ _ ⟨K, hK, c⟩ k => ⟨K, PySem.W.Frag.In.keeps hK k, ⟨c.d, c.ev, c.eb, c.pr, c.sys, fun p hp => ⟨(c.tb p hp).1, (c.tb p hp).2.1, k _ _ (c.tb p hp).2.2⟩⟩⟩
theorem obsY_eq {file : Str} {n : Nat} {fa : List He.Fa} {fn : List He.DefD} {er : List ErrD} {tf : List He.Defn} {g : Addr → Option Obj} {s : Shared} (h : ∀ a, g a = s.heap.get? a) : obsY file n fa fn er tf g = (hookY file n fa fn er tf).obs s := by
  rw [show g = s.heap.get? from funext h] <;> rfl
section
variable {file : Str} {fa : List He.Fa} {fn : List He.DefD} {er : List ErrD} {tf : List He.Defn} {h : Heap} {K : PySem.W.Frag}
theorem SaysY.err {P : Program} (c : SaysY P.main.file fa fn er tf h K) (i : Nat) {d : ErrD} (e : er[i]? = some d := by rfl) : ExF P K (d.C K) (d.I K) d.fld d.qual d.params d.body d.scope ∧ PySem.W.nsIn K mainGlobals d.cls = some (some (.ref (d.C K))) := by
  refine err_ok (List.all_eq_true.mp c.eb d (List.mem_of_getElem? e)) ?_
  have z : (er.map fun d => fnE K (d.I K))[i]? = (er.map ErrD.val)[i]? := by rw [c.ev]
  rw [List.getElem?_map, List.getElem?_map, e] at z
  exact Option.some.inj z
theorem SaysY.pair (c : SaysY file fa fn er tf h K) (i j : Nat) {d e : ErrD} (h1 : er[i]? = some d := by rfl) (h2 : er[j]? = some e := by rfl) (ne : d.cls ≠ e.cls := by decide +kernel) : PySem.W.exmOne K (.ref (d.C K)) (.ref (e.C K)) = some false := by
  have z := List.all_eq_true.mp (List.all_eq_true.mp c.pr d (List.mem_of_getElem? h1)) e (List.mem_of_getElem? h2)
  rcases Bool.or_eq_true_iff.mp z with z | z
  · exact absurd (of_decide_eq_true z) ne
  · exact of_decide_eq_true z
theorem SaysY.sysM (c : SaysY file fa fn er tf h K) : ∃ o, K.lookup sysModules = some o := Option.isSome_iff_exists.mp c.sys
/-- the def whose table is told: its code object -/
theorem SaysY.code {x qual : Str} {params : Arguments} {body : List Stmt} {scope : Scope} {fd : FuncData} {p : He.Defn} (F : FunD K x qual params body scope [] [] (He.fAd K p) fd) : fd.code = .ref (He.cT K p).1 := by
  obtain ⟨oc, od, dV, kV, doc, pm, an, cdv, ct, osl, rfl, lk, hcd, _, _⟩ := F.ex
  obtain ⟨c, rfl⟩ := He.codeIn_ref hcd
  show _ = Value.ref (He.codeOf K p)
  rw [He.codeOf_eq lk rfl]
/-- a promise that nobody can ask -/
theorem fn_void {P : Program} {w : World} {K : PySem.W.Frag} {mg : Str → Option Value} {base : Heap} {CX : CXT} {k : Nat} {f : Addr} {fd : FuncData} {ps : List Str} {sp : Sp} (n : ∀ vs H Q E, ¬ sp vs H Q E) : FnOk P w K mg base CX k f fd ps sp :=
  ⟨fun vs H Q E z => absurd z (n vs H Q E), fun _ _ _ H _ _ vs Q E _ _ _ _ z => absurd z (n vs H Q E)⟩
/-- the record of a def without defaults -/
theorem FunD.rec {x qual : Str} {params : Arguments} {body : List Stmt} {scope : Scope} {f : Addr} {fd : FuncData} (F : FunD K x qual params body scope [] [] f fd) : ∃ (oc : Value) (od : Option Addr) (kV doc pm : Value) (an : Option Addr) (cdv ct : Value) (osl : Array (Option Value)),
    fd = PySem.W.fnOf x qual params body scope .none kV doc pm an cdv ct ∧ K.lookup f = some ⟨oc, od, .func fd, osl⟩ ∧ PySem.W.codeIn K cdv qual = true := by
  obtain ⟨oc, od, dV, kV, doc, pm, an, cdv, ct, osl, e, lk, hcd, hD, _⟩ := F.ex
  rcases hD with ⟨_, rfl⟩ | ⟨z, _⟩
  · exact ⟨oc, od, kV, doc, pm, an, cdv, ct, osl, e, lk, hcd⟩
  · exact absurd rfl z
end
end RG

namespace RG
open PySem PySem.Spec PyProof.Rows L2
def topS (i : Nat) : Stmt := PySem.Challenge.pw_ringnumber_k77_whole_all_starts_at_once.main.body.getD i (.Pass ⟨0, 0, 0, 0⟩)
abbrev s_Ldraw : Stmt := topS 35
abbrev n_Ldraw : List Str := ["spring", "many", "digit", "mixed"]
theorem sc_Ldraw : FnScope n_Ldraw ["spring", "many"] (defScope s_Ldraw) := ⟨rfl, rfl, rfl, by decide +kernel, rfl, by decide +kernel, by decide +kernel⟩
abbrev s_Lpick : Stmt := topS 36
abbrev n_Lpick : List Str := ["spring", "some"]
theorem sc_Lpick : FnScope n_Lpick ["spring", "some"] (defScope s_Lpick) := ⟨rfl, rfl, rfl, by decide +kernel, rfl, by decide +kernel, by decide +kernel⟩
abbrev s_Lmixed : Stmt := topS 37
abbrev n_Lmixed : List Str := ["spring", "some", "left", "k"]
theorem sc_Lmixed : FnScope n_Lmixed ["spring", "some"] (defScope s_Lmixed) := ⟨rfl, rfl, rfl, by decide +kernel, rfl, by decide +kernel, by decide +kernel⟩
abbrev s_Lspring : Stmt := topS 34
abbrev n_Lspring : List Str := ["script", "turn", "cell", "mix", "at", "one"]
theorem sc_Lspring : FnScope n_Lspring ["script", "turn"] (defScope s_Lspring) := ⟨rfl, rfl, rfl, by decide +kernel, rfl, by decide +kernel, by decide +kernel⟩
abbrev s_Lw_name : Stmt := topS 40
abbrev n_Lw_name : List Str := ["spring", "letters", "told", "k"]
theorem sc_Lw_name : FnScope n_Lw_name ["spring"] (defScope s_Lw_name) := ⟨rfl, rfl, rfl, by decide +kernel, rfl, by decide +kernel, by decide +kernel⟩
abbrev s_Lw_names : Stmt := topS 41
abbrev n_Lw_names : List Str := ["spring", "many", "told", "k", "one", "at"]
theorem sc_Lw_names : FnScope n_Lw_names ["spring", "many"] (defScope s_Lw_names) := ⟨rfl, rfl, rfl, by decide +kernel, rfl, by decide +kernel, by decide +kernel⟩
abbrev s_Lr_lengths : Stmt := topS 42
abbrev n_Lr_lengths : List Str := ["spring", "hours", "many", "shape", "top", "one", "k"]
theorem sc_Lr_lengths : FnScope n_Lr_lengths ["spring", "hours", "many"] (defScope s_Lr_lengths) := ⟨rfl, rfl, rfl, by decide +kernel, rfl, by decide +kernel, by decide +kernel⟩
abbrev s_Lr_drawn : Stmt := topS 43
abbrev n_Lr_drawn : List Str := ["spring", "many", "hours", "names", "lengths", "step", "found", "at", "name"]
theorem sc_Lr_drawn : FnScope n_Lr_drawn ["spring", "many"] (defScope s_Lr_drawn) := ⟨rfl, rfl, rfl, by decide +kernel, rfl, by decide +kernel, by decide +kernel⟩
abbrev s_Lsame : Stmt := topS 39
abbrev n_Lsame : List Str := ["found", "due", "is_alike", "one", "other"]
theorem sc_Lsame : FnScope n_Lsame ["found", "due"] (defScope s_Lsame) := ⟨rfl, rfl, rfl, by decide +kernel, rfl, by decide +kernel, by decide +kernel⟩
abbrev s_is_integer : Stmt := topS 4
abbrev n_is_integer : List Str := ["thing"]
theorem sc_is_integer : FnScope n_is_integer ["thing"] (defScope s_is_integer) := ⟨rfl, rfl, rfl, by decide +kernel, rfl, by decide +kernel, by decide +kernel⟩
abbrev s_is_between : Stmt := topS 6
abbrev n_is_between : List Str := ["thing", "low", "high"]
theorem sc_is_between : FnScope n_is_between ["thing", "low", "high"] (defScope s_is_between) := ⟨rfl, rfl, rfl, by decide +kernel, rfl, by decide +kernel, by decide +kernel⟩
abbrev s_is_list : Stmt := topS 7
abbrev n_is_list : List Str := ["thing"]
theorem sc_is_list : FnScope n_is_list ["thing"] (defScope s_is_list) := ⟨rfl, rfl, rfl, by decide +kernel, rfl, by decide +kernel, by decide +kernel⟩
abbrev s_is_name : Stmt := topS 8
abbrev n_is_name : List Str := ["thing", "sign"]
theorem sc_is_name : FnScope n_is_name ["thing"] (defScope s_is_name) := ⟨rfl, rfl, rfl, by decide +kernel, rfl, by decide +kernel, by decide +kernel⟩
abbrev s_check_hours : Stmt := topS 18
abbrev n_check_hours : List Str := ["hours"]
theorem sc_check_hours : FnScope n_check_hours ["hours"] (defScope s_check_hours) := ⟨rfl, rfl, rfl, by decide +kernel, rfl, by decide +kernel, by decide +kernel⟩
abbrev s_are_arcs : Stmt := topS 19
abbrev n_are_arcs : List Str := ["hours", "thing", "name", "start", "length"]
theorem sc_are_arcs : FnScope n_are_arcs ["hours", "thing"] (defScope s_are_arcs) := ⟨rfl, rfl, rfl, by decide +kernel, rfl, by decide +kernel, by decide +kernel⟩
abbrev s_Ring_init : Stmt := inClass (topS 20) 0
abbrev n_Ring_init : List Str := ["self", "hours", "arcs", "name"]
theorem sc_Ring_init : FnScope n_Ring_init ["self", "hours", "arcs"] (defScope s_Ring_init) := ⟨rfl, rfl, rfl, by decide +kernel, rfl, by decide +kernel, by decide +kernel⟩
abbrev s_Ring_len : Stmt := inClass (topS 20) 1
abbrev n_Ring_len : List Str := ["self"]
theorem sc_Ring_len : FnScope n_Ring_len ["self"] (defScope s_Ring_len) := ⟨rfl, rfl, rfl, by decide +kernel, rfl, by decide +kernel, by decide +kernel⟩
abbrev s_Ring_contains : Stmt := inClass (topS 20) 3
abbrev n_Ring_contains : List Str := ["self", "name"]
theorem sc_Ring_contains : FnScope n_Ring_contains ["self", "name"] (defScope s_Ring_contains) := ⟨rfl, rfl, rfl, by decide +kernel, rfl, by decide +kernel, by decide +kernel⟩
abbrev s_Ring_hours : Stmt := inClass (topS 20) 5
abbrev n_Ring_hours : List Str := ["self"]
theorem sc_Ring_hours : FnScope n_Ring_hours ["self"] (defScope s_Ring_hours) := ⟨rfl, rfl, rfl, by decide +kernel, rfl, by decide +kernel, by decide +kernel⟩
abbrev s_Ring_names : Stmt := inClass (topS 20) 7
abbrev n_Ring_names : List Str := ["self"]
theorem sc_Ring_names : FnScope n_Ring_names ["self"] (defScope s_Ring_names) := ⟨rfl, rfl, rfl, by decide +kernel, rfl, by decide +kernel, by decide +kernel⟩
abbrev s_Ring_arc : Stmt := inClass (topS 20) 8
abbrev n_Ring_arc : List Str := ["self", "name"]
theorem sc_Ring_arc : FnScope n_Ring_arc ["self", "name"] (defScope s_Ring_arc) := ⟨rfl, rfl, rfl, by decide +kernel, rfl, by decide +kernel, by decide +kernel⟩
abbrev s_Lvery : Stmt := topS 38
abbrev n_Lvery : List Str := ["kept", "thing", "found"]
theorem sc_Lvery : FnScope n_Lvery ["kept", "thing"] (defScope s_Lvery) := ⟨rfl, rfl, rfl, by decide +kernel, rfl, by decide +kernel, by decide +kernel⟩
abbrev s_is_number : Stmt := topS 5
abbrev n_is_number : List Str := ["thing"]
theorem sc_is_number : FnScope n_is_number ["thing"] (defScope s_is_number) := ⟨rfl, rfl, rfl, by decide +kernel, rfl, by decide +kernel, by decide +kernel⟩
abbrev s_is_drifts : Stmt := topS 25
abbrev n_is_drifts : List Str := ["ring", "thing", "name"]
theorem sc_is_drifts : FnScope n_is_drifts ["ring", "thing"] (defScope s_is_drifts) := ⟨rfl, rfl, rfl, by decide +kernel, rfl, by decide +kernel, by decide +kernel⟩
abbrev s_check_drifts : Stmt := topS 26
abbrev n_check_drifts : List Str := ["ring", "drifts"]
theorem sc_check_drifts : FnScope n_check_drifts ["ring", "drifts"] (defScope s_check_drifts) := ⟨rfl, rfl, rfl, by decide +kernel, rfl, by decide +kernel, by decide +kernel⟩
abbrev s_start_on : Stmt := topS 27
abbrev n_start_on : List Str := ["ring", "drifts", "name", "day"]
theorem sc_start_on : FnScope n_start_on ["ring", "drifts", "name", "day"] (defScope s_start_on) := ⟨rfl, rfl, rfl, by decide +kernel, rfl, by decide +kernel, by decide +kernel⟩
abbrev s_turned_on : Stmt := topS 28
abbrev n_turned_on : List Str := ["ring", "drifts", "day", "arcs", "name"]
theorem sc_turned_on : FnScope n_turned_on ["ring", "drifts", "day"] (defScope s_turned_on) := ⟨rfl, rfl, rfl, by decide +kernel, rfl, by decide +kernel, by decide +kernel⟩
abbrev s_ring_on : Stmt := topS 29
abbrev n_ring_on : List Str := ["ring", "drifts", "day"]
theorem sc_ring_on : FnScope n_ring_on ["ring", "drifts", "day"] (defScope s_ring_on) := ⟨rfl, rfl, rfl, by decide +kernel, rfl, by decide +kernel, by decide +kernel⟩
abbrev s_is_wishes : Stmt := topS 30
abbrev n_is_wishes : List Str := ["ring", "thing", "name"]
theorem sc_is_wishes : FnScope n_is_wishes ["ring", "thing"] (defScope s_is_wishes) := ⟨rfl, rfl, rfl, by decide +kernel, rfl, by decide +kernel, by decide +kernel⟩
abbrev s_days_for : Stmt := topS 31
abbrev n_days_for : List Str := ["ring", "drifts", "name", "hour", "day"]
theorem sc_days_for : FnScope n_days_for ["ring", "drifts", "name", "hour"] (defScope s_days_for) := ⟨rfl, rfl, rfl, by decide +kernel, rfl, by decide +kernel, by decide +kernel⟩
abbrev s_all_start : Stmt := topS 32
abbrev n_all_start : List Str := ["ring", "drifts", "wishes", "names", "told", "name", "index", "one", "other", "day"]
theorem sc_all_start : FnScope n_all_start ["ring", "drifts", "wishes"] (defScope s_all_start) := ⟨rfl, rfl, rfl, by decide +kernel, rfl, by decide +kernel, by decide +kernel⟩
abbrev s_Ld_drifts : Stmt := topS 47
abbrev n_Ld_drifts : List Str := ["spring", "hours", "arcs", "menu", "name"]
theorem sc_Ld_drifts : FnScope n_Ld_drifts ["spring", "hours", "arcs"] (defScope s_Ld_drifts) := ⟨rfl, rfl, rfl, by decide +kernel, rfl, by decide +kernel, by decide +kernel⟩
abbrev s_Ld_days : Stmt := topS 50
abbrev n_Ld_days : List Str := ["hours", "arcs", "drifts", "name", "hour", "day"]
theorem sc_Ld_days : FnScope n_Ld_days ["hours", "arcs", "drifts", "name", "hour"] (defScope s_Ld_days) := ⟨rfl, rfl, rfl, by decide +kernel, rfl, by decide +kernel, by decide +kernel⟩
abbrev s_Ld_due : Stmt := topS 51
abbrev n_Ld_due : List Str := ["hours", "arcs", "drifts", "wishes", "names", "days", "name", "at", "one", "other", "left", "day"]
theorem sc_Ld_due : FnScope n_Ld_due ["hours", "arcs", "drifts", "wishes"] (defScope s_Ld_due) := ⟨rfl, rfl, rfl, by decide +kernel, rfl, by decide +kernel, by decide +kernel⟩
abbrev s_Ld_wishes : Stmt := topS 52
abbrev n_Ld_wishes : List Str := ["spring", "hours", "arcs", "drifts", "some", "day", "found", "name"]
theorem sc_Ld_wishes : FnScope n_Ld_wishes ["spring", "hours", "arcs", "drifts"] (defScope s_Ld_wishes) := ⟨rfl, rfl, rfl, by decide +kernel, rfl, by decide +kernel, by decide +kernel⟩
abbrev s_Ld_asked : Stmt := topS 54
abbrev n_Ld_asked : List Str := ["spring", "hours", "arcs", "drifts", "wishes", "ring", "own", "mine", "due", "on", "name"]
theorem sc_Ld_asked : FnScope n_Ld_asked ["spring", "hours", "arcs", "drifts", "wishes"] (defScope s_Ld_asked) := ⟨rfl, rfl, rfl, by decide +kernel, rfl, by decide +kernel, by decide +kernel⟩
abbrev s_Ld_met : Stmt := topS 53
abbrev n_Ld_met : List Str := ["call", "thing", "e"]
theorem sc_Ld_met : FnScope n_Ld_met ["call", "thing"] (defScope s_Ld_met) := ⟨rfl, rfl, rfl, by decide +kernel, rfl, by decide +kernel, by decide +kernel⟩
abbrev s_Ld_refused : Stmt := topS 55
abbrev n_Ld_refused : List Str := ["hours", "arcs", "drifts", "ring", "thing", "bad", "name", "one"]
theorem sc_Ld_refused : FnScope n_Ld_refused ["hours", "arcs", "drifts"] (defScope s_Ld_refused) := ⟨rfl, rfl, rfl, by decide +kernel, rfl, by decide +kernel, by decide +kernel⟩
abbrev s_law : Stmt := topS 56
abbrev n_law : List Str := ["script", "turn", "spring", "hours", "arcs", "drifts", "k", "ring", "found", "name"]
theorem sc_law : FnScope n_law ["script"] (defScope s_law) := ⟨rfl, rfl, rfl, by decide +kernel, rfl, by decide +kernel, by decide +kernel⟩
open PySem PySem.Spec PyProof.Rows L2
abbrev PP : Program := PySem.Challenge.pw_ringnumber_k77_whole_all_starts_at_once
abbrev CRg (K : PySem.W.Frag) : Addr := He.ga K "Ring"
def d_Ldraw : He.DefD := ⟨("_law_draw", none), "_law_draw", "_law_draw", defArgs s_Ldraw, defBody s_Ldraw, defScope s_Ldraw, [], []⟩
def d_Lpick : He.DefD := ⟨("_law_pick", none), "_law_pick", "_law_pick", defArgs s_Lpick, defBody s_Lpick, defScope s_Lpick, [], []⟩
def d_Lmixed : He.DefD := ⟨("_law_mixed", none), "_law_mixed", "_law_mixed", defArgs s_Lmixed, defBody s_Lmixed, defScope s_Lmixed, [], []⟩
def d_Lspring : He.DefD := ⟨("_law_spring", none), "_law_spring", "_law_spring", defArgs s_Lspring, defBody s_Lspring, defScope s_Lspring, [], []⟩
def d_Lw_name : He.DefD := ⟨("_law_w_name", none), "_law_w_name", "_law_w_name", defArgs s_Lw_name, defBody s_Lw_name, defScope s_Lw_name, [], []⟩
def d_Lw_names : He.DefD := ⟨("_law_w_names", none), "_law_w_names", "_law_w_names", defArgs s_Lw_names, defBody s_Lw_names, defScope s_Lw_names, [], []⟩
def d_Lr_lengths : He.DefD := ⟨("_law_r_lengths", none), "_law_r_lengths", "_law_r_lengths", defArgs s_Lr_lengths, defBody s_Lr_lengths, defScope s_Lr_lengths, [], []⟩
def d_Lr_drawn : He.DefD := ⟨("_law_r_drawn", none), "_law_r_drawn", "_law_r_drawn", defArgs s_Lr_drawn, defBody s_Lr_drawn, defScope s_Lr_drawn, [], []⟩
def d_Lsame : He.DefD := ⟨("_law_same", none), "_law_same", "_law_same", defArgs s_Lsame, defBody s_Lsame, defScope s_Lsame, [], []⟩
def d_is_integer : He.DefD := ⟨("is_integer", none), "is_integer", "is_integer", defArgs s_is_integer, defBody s_is_integer, defScope s_is_integer, [], []⟩
def d_is_between : He.DefD := ⟨("is_between", none), "is_between", "is_between", defArgs s_is_between, defBody s_is_between, defScope s_is_between, [], []⟩
def d_is_list : He.DefD := ⟨("is_list", none), "is_list", "is_list", defArgs s_is_list, defBody s_is_list, defScope s_is_list, [], []⟩
def d_is_name : He.DefD := ⟨("is_name", none), "is_name", "is_name", defArgs s_is_name, defBody s_is_name, defScope s_is_name, [], []⟩
def d_check_hours : He.DefD := ⟨("check_hours", none), "check_hours", "check_hours", defArgs s_check_hours, defBody s_check_hours, defScope s_check_hours, [], []⟩
def d_are_arcs : He.DefD := ⟨("are_arcs", none), "are_arcs", "are_arcs", defArgs s_are_arcs, defBody s_are_arcs, defScope s_are_arcs, [], []⟩
def d_Ring_init : He.DefD := ⟨("Ring", some "__init__"), "__init__", "Ring.__init__", defArgs s_Ring_init, defBody s_Ring_init, defScope s_Ring_init, [], []⟩
def d_Ring_len : He.DefD := ⟨("Ring", some "__len__"), "__len__", "Ring.__len__", defArgs s_Ring_len, defBody s_Ring_len, defScope s_Ring_len, [], []⟩
def d_Ring_contains : He.DefD := ⟨("Ring", some "__contains__"), "__contains__", "Ring.__contains__", defArgs s_Ring_contains, defBody s_Ring_contains, defScope s_Ring_contains, [], []⟩
def d_Ring_hours : He.DefD := ⟨("Ring", some "hours"), "hours", "Ring.hours", defArgs s_Ring_hours, defBody s_Ring_hours, defScope s_Ring_hours, [], []⟩
def d_Ring_names : He.DefD := ⟨("Ring", some "names"), "names", "Ring.names", defArgs s_Ring_names, defBody s_Ring_names, defScope s_Ring_names, [], []⟩
def d_Ring_arc : He.DefD := ⟨("Ring", some "arc"), "arc", "Ring.arc", defArgs s_Ring_arc, defBody s_Ring_arc, defScope s_Ring_arc, [], []⟩
def d_Lvery : He.DefD := ⟨("_law_very", none), "_law_very", "_law_very", defArgs s_Lvery, defBody s_Lvery, defScope s_Lvery, [], []⟩
def d_is_number : He.DefD := ⟨("is_number", none), "is_number", "is_number", defArgs s_is_number, defBody s_is_number, defScope s_is_number, [], []⟩
def d_is_drifts : He.DefD := ⟨("is_drifts", none), "is_drifts", "is_drifts", defArgs s_is_drifts, defBody s_is_drifts, defScope s_is_drifts, [], []⟩
def d_check_drifts : He.DefD := ⟨("check_drifts", none), "check_drifts", "check_drifts", defArgs s_check_drifts, defBody s_check_drifts, defScope s_check_drifts, [], []⟩
def d_start_on : He.DefD := ⟨("start_on", none), "start_on", "start_on", defArgs s_start_on, defBody s_start_on, defScope s_start_on, [], []⟩
def d_turned_on : He.DefD := ⟨("turned_on", none), "turned_on", "turned_on", defArgs s_turned_on, defBody s_turned_on, defScope s_turned_on, [], []⟩
def d_ring_on : He.DefD := ⟨("ring_on", none), "ring_on", "ring_on", defArgs s_ring_on, defBody s_ring_on, defScope s_ring_on, [], []⟩
def d_is_wishes : He.DefD := ⟨("is_wishes", none), "is_wishes", "is_wishes", defArgs s_is_wishes, defBody s_is_wishes, defScope s_is_wishes, [], []⟩
def d_days_for : He.DefD := ⟨("days_for", none), "days_for", "days_for", defArgs s_days_for, defBody s_days_for, defScope s_days_for, [], []⟩
def d_all_start : He.DefD := ⟨("all_start", none), "all_start", "all_start", defArgs s_all_start, defBody s_all_start, defScope s_all_start, [], []⟩
def d_Ld_drifts : He.DefD := ⟨("_law_d_drifts", none), "_law_d_drifts", "_law_d_drifts", defArgs s_Ld_drifts, defBody s_Ld_drifts, defScope s_Ld_drifts, [], []⟩
def d_Ld_days : He.DefD := ⟨("_law_d_days", none), "_law_d_days", "_law_d_days", defArgs s_Ld_days, defBody s_Ld_days, defScope s_Ld_days, [], []⟩
def d_Ld_due : He.DefD := ⟨("_law_d_due", none), "_law_d_due", "_law_d_due", defArgs s_Ld_due, defBody s_Ld_due, defScope s_Ld_due, [], []⟩
def d_Ld_wishes : He.DefD := ⟨("_law_d_wishes", none), "_law_d_wishes", "_law_d_wishes", defArgs s_Ld_wishes, defBody s_Ld_wishes, defScope s_Ld_wishes, [], []⟩
def d_Ld_asked : He.DefD := ⟨("_law_d_asked", none), "_law_d_asked", "_law_d_asked", defArgs s_Ld_asked, defBody s_Ld_asked, defScope s_Ld_asked, [], []⟩
def d_Ld_met : He.DefD := ⟨("_law_d_met", none), "_law_d_met", "_law_d_met", defArgs s_Ld_met, defBody s_Ld_met, defScope s_Ld_met, [], []⟩
def d_Ld_refused : He.DefD := ⟨("_law_d_refused", none), "_law_d_refused", "_law_d_refused", defArgs s_Ld_refused, defBody s_Ld_refused, defScope s_Ld_refused, [], []⟩
def d_law : He.DefD := ⟨("law", none), "law", "law", defArgs s_law, defBody s_law, defScope s_law, [], []⟩
def faL : List He.Fa := ([.glo "_law_draw", .glo "_law_pick", .glo "_law_mixed", .glo "_law_spring", .glo "_law_w_name", .glo "_law_w_names", .glo "_law_r_lengths", .glo "_law_r_drawn", .glo "_law_same", .glo "is_integer", .glo "is_between", .glo "is_list", .glo "is_name", .glo "check_hours", .glo "are_arcs", .mkr "Ring", .meth "Ring" "__len__", .meth "Ring" "__contains__", .meth "Ring" "hours", .meth "Ring" "names", .meth "Ring" "arc", .glo "_law_very", .glo "is_number", .glo "is_drifts", .glo "check_drifts", .glo "start_on", .glo "turned_on", .glo "ring_on", .glo "is_wishes", .glo "days_for", .glo "all_start", .glo "_law_d_drifts", .glo "_law_d_days", .glo "_law_d_due", .glo "_law_d_wishes", .glo "_law_d_asked", .glo "_law_d_met", .glo "_law_d_refused", .glo "law", .free "len"] : List He.Fa) ++ ([.free "isinstance", .free "int", .free "bool", .free "str", .free "list", .free "dict", .free "tuple", .free "range", .free "enumerate", .free "zip", .free "sorted", .free "max", .free "min", .free "all", .free "any", .free "repr", .free "sum", .free "abs", .free "super", .glo "Ring", .cls "Ring", .noat "Ring" "own_hours", .noat "Ring" "own_arcs", .int "FORTY" 40, .str "LETTERS" "abcdefghijklmnopqrstuvwxyz", .int "MOST_HOURS" 1000, .str "SIGNS" "abcdefghijklmnopqrstuvwxyz0123456789"] : List He.Fa)
def fnL : List He.DefD := [d_Ldraw, d_Lpick, d_Lmixed, d_Lspring, d_Lw_name, d_Lw_names, d_Lr_lengths, d_Lr_drawn, d_Lsame, d_is_integer, d_is_between, d_is_list, d_is_name, d_check_hours, d_are_arcs, d_Ring_init, d_Ring_len, d_Ring_contains, d_Ring_hours, d_Ring_names, d_Ring_arc, d_Lvery, d_is_number, d_is_drifts, d_check_drifts, d_start_on, d_turned_on, d_ring_on, d_is_wishes, d_days_for, d_all_start, d_Ld_drifts, d_Ld_days, d_Ld_due, d_Ld_wishes, d_Ld_asked, d_Ld_met, d_Ld_refused, d_law]
abbrev sE_BadDrifts : Stmt := inClass (topS 22) 0
def er_BadDrifts : ErrD := ⟨"BadDrifts", "drifts", "BadDrifts.__init__", defArgs sE_BadDrifts, defBody sE_BadDrifts, defScope sE_BadDrifts⟩
abbrev sE_BadWishes : Stmt := inClass (topS 23) 0
def er_BadWishes : ErrD := ⟨"BadWishes", "wishes", "BadWishes.__init__", defArgs sE_BadWishes, defBody sE_BadWishes, defScope sE_BadWishes⟩
def erL : List ErrD := [er_BadDrifts, er_BadWishes]
def tfL : List He.Defn := [("_law_d_refused", none)]
abbrev hkY : PySem.W.Hook := hookY PP.main.file 4 faL fnL erL tfL
abbrev RowL : PySem.W.OpenRow := PySem.W.OpenLaw.row PySem.Challenge.rw_ringnumber_k77_whole_all_starts_at_once
def obL (s : PySem.W.SharedT) : AlY := obsY PP.main.file 4 faL fnL erL tfL (HandSHeadRun.getT s)
theorem obL_eq (s : PySem.W.SharedT) : obL s = hkY.obs s.abs := obsY_eq (HandSHeadRun.getT_eq s)
def looseL : List Str := (["_wall", "__name__", "LETTERS", "SIGNS", "is_integer", "is_number", "is_between", "is_list", "is_name", "RingError", "BadHours", "BadArcs", "NoArc", "BadNumber", "MOST_HOURS", "FORTY", "check_hours", "are_arcs", "Ring", "BadDrifts"] : List Str) ++ (["BadWishes", "is_drifts", "check_drifts", "start_on", "turned_on", "ring_on", "is_wishes", "days_for", "all_start", "_law_spring", "_law_draw", "_law_pick", "_law_mixed", "_law_very", "_law_same", "_law_w_name", "_law_w_names", "_law_r_lengths", "_law_r_drawn", "_law_r_full"] : List Str) ++ (["_law_r_covers", "_law_r_meet", "_law_d_drifts", "_law_d_on", "_law_d_back", "_law_d_days", "_law_d_due", "_law_d_wishes", "_law_d_met", "_law_d_asked", "_law_d_refused"] : List Str)
set_option maxHeartbeats 0 in
theorem runL (w : World) : HandSHeadRun.RunEq RowL (PySem.W.view RowL.prog [56]) hkY obL 12000 looseL w := by
  intro os
  kernel_rfl
end RG
/-! the data layer: readings over data alone, the heap out of sight.
A frame: C the class of rings, F what others hold and change, M the springs among them (one or none), S its own lists and dicts that it still changes. -/
namespace RG
open PySem PySem.Spec PyProof.Rows L2
/-- a value as data: data that nobody changes, a ring, the spring -/
inductive DV where
  | d (x : PyData)
  | ring (h : Int) (A : Arcs)
  | s
  | ty (t : String)
  | raw (u : V)
/-- a slot: a value, or a list or a dict of one's own that is still changed -/
inductive DO where
  | v (x : DV)
  | l (xs : List PyData)
  | m (kvs : List (PyData × PyData))
abbrev DSt := List (Option DO)
def ShV (C : Addr) (U M : List Addr) (H : Hp) (v : V) : DV → Prop
  | .d x => Im U H v x
  | .ring h A => ∃ a, v = .ref a ∧ RingR U H C a h A
  | .s => ∃ s, v = .ref s ∧ M = [s]
  | .ty t => v = .ty t
  | .raw u => v = u
def ShO (C : Addr) (S F M : List Addr) (H : Hp) (v : V) : DO → Prop
  | .v x => ShV C (S ++ F) M H v x
  | .l xs => ∃ a vs, v = .ref a ∧ a ∈ S ∧ H a = some (.lst vs) ∧ ImAll (S ++ F) H vs xs
  | .m kvs => ∃ a ks, v = .ref a ∧ a ∈ S ∧ H a = some (.dK ks) ∧ (ks.map (·.1)).Nodup ∧ ImKv (S ++ F) H ks kvs
def DO.own : DO → Prop
  | .v _ => False
  | _ => True
def DO.val : DO → DV
  | .v x => x
  | .l xs => .d (.list xs)
  | .m kvs => .d (.dict kvs)
structure Rel (C : Addr) (F M S : List Addr) (H : Hp) (σ : L2.St) (δ : DSt) (n : Nat) : Prop where
  al : Al (S ++ F) H
  mf : ∀ a ∈ M, a ∈ F
  dj : ∀ a ∈ S, a ∉ F
  sp : ∀ s ∈ M, Spr H s n
  ln : σ.length = δ.length
  sh : ∀ (i : Nat) (o : DO), δ[i]? = some (some o) → ∃ v, σ[i]? = some (some v) ∧ ShO C S F M H v o
  nd : ∀ (i j : Nat) (o o' : DO) (a : Addr), i ≠ j → δ[i]? = some (some o) → δ[j]? = some (some o') → o.own → o'.own → σ[i]? = some (some (.ref a)) → σ[j]? = some (some (.ref a)) → False
/-- from one state to a later one: only what is one's own, and the springs, is changed; what is one's own later was so, or is new -/
structure Stp (M S : List Addr) (H : Hp) (S' : List Addr) (H' : Hp) : Prop where
  nx : Nx (S ++ M) H H'
  nw : ∀ a ∈ S', a ∈ S ∨ H a = none
theorem Stp.refl {M S : List Addr} {H : Hp} : Stp M S H S H := ⟨.refl _ _, fun _ h => .inl h⟩
theorem Stp.trans {M S S1 S2 : List Addr} {H H1 H2 : Hp} (a : Stp M S H S1 H1) (b : Stp M S1 H1 S2 H2) : Stp M S H S2 H2 := by
  refine ⟨⟨fun c o hc e => ?_, fun c h => b.nx.th c (a.nx.th c h)⟩, fun c hc => ?_⟩
  · refine b.nx.kp c o (fun z => ?_) (a.nx.kp c o hc e)
    rcases List.mem_append.mp z with z | z
    · rcases a.nw c z with z | z
      · exact hc (List.mem_append_left _ z)
      · rw [z] at e; cases e
    · exact hc (List.mem_append_right _ z)
  · rcases b.nw c hc with z | z
    · exact a.nw c z
    · exact .inr (a.nx.fresh z)
/-- a callee that changes the springs alone, or nothing -/
theorem Stp.of {M S T : List Addr} {H H' : Hp} (g : Nx T H H') (h : ∀ a ∈ T, a ∈ M) : Stp M S H S H' := ⟨g.mono fun a ha => List.mem_append_right _ (h a ha), fun _ h => .inl h⟩
theorem Stp.of0 {M S : List Addr} {H H' : Hp} (g : Nx [] H H') : Stp M S H S H' := .of g (by simp)
/-- what is no longer changed -/
theorem Stp.less {M S S' : List Addr} {H : Hp} (h : ∀ a ∈ S', a ∈ S) : Stp M S H S' H := ⟨.refl _ _, fun a ha => .inl (h a ha)⟩
theorem Stp.add {M S : List Addr} {H H' : Hp} {p : Addr} (n : H p = none) (g : Nx [] H H') : Stp M S H (p :: S) H' := ⟨g.of0, fun a ha => (List.mem_cons.mp ha).elim (fun e => .inr (by rw [e]; exact n)) .inl⟩
theorem Stp.put {M S : List Addr} {H : Hp} {a : Addr} {o : HO} (h : a ∈ S) : Stp M S H S (upd H a o) := ⟨.put (List.mem_append_left _ h), fun _ h => .inl h⟩
section
variable {C : Addr} {F M S S' : List Addr} {H H' : Hp} {σ : L2.St} {δ : DSt} {n : Nat}
theorem Stp.t1 (g : Stp M S H S' H') : ∀ a ∈ S' ++ (S ++ F), a ∈ S ++ F ∨ H a = none := fun a ha => by
  rcases List.mem_append.mp ha with z | z
  · exact (g.nw a z).imp (List.mem_append_left _) id
  · exact .inl z
theorem Stp.t2 (g : Stp M S H S' H') (mf : ∀ a ∈ M, a ∈ F) : Nx (S' ++ (S ++ F)) H H' := g.nx.mono fun a ha => List.mem_append_right _ ((List.mem_append.mp ha).elim (List.mem_append_left _) fun z => List.mem_append_right _ (mf a z))
theorem t3 : ∀ a ∈ S' ++ F, a ∈ S' ++ (S ++ F) ∨ H' a = none := fun a ha => .inl ((List.mem_append.mp ha).elim (List.mem_append_left _) fun z => List.mem_append_right _ (List.mem_append_right _ z))
theorem Im.stp {v : V} {d : PyData} (g : Stp M S H S' H') (mf : ∀ a ∈ M, a ∈ F) (h : Im (S ++ F) H v d) : Im (S' ++ F) H' v d := Im.sub t3 _ (Im.nx (g.t2 mf) (Im.sub g.t1 _ h))
theorem ImAll.stp {v : List V} {d : List PyData} (g : Stp M S H S' H') (mf : ∀ a ∈ M, a ∈ F) (h : ImAll (S ++ F) H v d) : ImAll (S' ++ F) H' v d := ImAll.sub t3 _ (ImAll.nx (g.t2 mf) (ImAll.sub g.t1 _ h))
theorem ImKv.stp {v : List (Key × V)} {d : List (PyData × PyData)} (g : Stp M S H S' H') (mf : ∀ a ∈ M, a ∈ F) (h : ImKv (S ++ F) H v d) : ImKv (S' ++ F) H' v d := ImKv.sub t3 _ (ImKv.nx (g.t2 mf) (ImKv.sub g.t1 _ h))
theorem ShV.stp {v : V} {x : DV} (g : Stp M S H S' H') (mf : ∀ a ∈ M, a ∈ F) (h : ShV C (S ++ F) M H v x) : ShV C (S' ++ F) M H' v x := by
  cases x with
  | d x => exact Im.stp g mf h
  | ring k A =>
    obtain ⟨a, e, r⟩ := h
    exact ⟨a, e, RingR.sub t3 (RingR.nx (g.t2 mf) (RingR.sub g.t1 r))⟩
  | s => exact h
  | ty t => exact h
  | raw u => exact h
theorem Rel.getV (r : Rel C F M S H σ δ n) {i : Nat} {x : DV} (e : δ[i]? = some (some (.v x))) : ∃ v, σ[i]? = some (some v) ∧ ShV C (S ++ F) M H v x := r.sh i _ e
theorem Rel.lt (r : Rel C F M S H σ δ n) {i : Nat} {o : DO} (e : δ[i]? = some (some o)) : i < σ.length := by rw [r.ln]; exact (List.getElem?_eq_some_iff.mp e).1
theorem ShV.nx {U : List Addr} {v : V} {x : DV} (g : Nx U H H') (h : ShV C U M H v x) : ShV C U M H' v x := by
  cases x with
  | d x => exact Im.nx g h
  | ring k A =>
    obtain ⟨a, e, r⟩ := h
    exact ⟨a, e, r.nx g⟩
  | s => exact h
  | ty t => exact h
  | raw u => exact h
/-- nothing changes in the slots; the springs anew -/
theorem Rel.stp (r : Rel C F M S H σ δ n) {T : List Addr} {m : Nat} (g : Nx T H H') (hT : ∀ a ∈ T, a ∈ F) (sp : ∀ s ∈ M, Spr H' s m) : Rel C F M S H' σ δ m := by
  have gU : Nx (S ++ F) H H' := g.mono fun a ha => List.mem_append_right _ (hT a ha)
  refine ⟨r.al.mono g, r.mf, r.dj, sp, r.ln, fun i o e => ?_, r.nd⟩
  obtain ⟨v, ev, h⟩ := r.sh i o e
  refine ⟨v, ev, ?_⟩
  have kp : ∀ a ∈ S, ∀ u, H a = some u → H' a = some u := fun a ha u e => g.kp a u (fun z => r.dj a ha (hT a z)) e
  cases o with
  | v x => exact ShV.nx gU h
  | l xs =>
    obtain ⟨a, vs, ea, ha, e1, im⟩ := h
    exact ⟨a, vs, ea, ha, kp a ha _ e1, im.nx gU⟩
  | m kvs =>
    obtain ⟨a, ks, ea, ha, e1, nd, im⟩ := h
    exact ⟨a, ks, ea, ha, kp a ha _ e1, nd, im.nx gU⟩
theorem ShV.sub {U T : List Addr} {v : V} {x : DV} (g : ∀ a ∈ T, a ∈ U) (h : ShV C U M H v x) : ShV C T M H v x := by
  cases x with
  | d x => exact Im.sub (fun a ha => .inl (g a ha)) _ h
  | ring k A =>
    obtain ⟨a, e, r⟩ := h
    exact ⟨a, e, r.sub fun a ha => .inl (g a ha)⟩
  | s => exact h
  | ty t => exact h
  | raw u => exact h
theorem mem_sw {D a : Addr} {S F : List Addr} : a ∈ S ++ D :: F ↔ a ∈ D :: (S ++ F) := by
  simp only [List.mem_append, List.mem_cons]
  exact ⟨fun h => by rcases h with h | h | h <;> simp [h], fun h => by rcases h with h | h | h <;> simp [h]⟩
/-- an object that is nobody's: no longer kept from change -/
theorem Rel.outF {D : Addr} (r : Rel C (D :: F) M S H σ δ n) (mf : ∀ a ∈ M, a ∈ F) : Rel C F M S H σ δ n := by
  have sb : ∀ a ∈ S ++ F, a ∈ S ++ D :: F := fun a ha => mem_sw.mpr (List.mem_cons_of_mem _ ha)
  refine ⟨fun a ha => r.al a (sb a ha), mf, fun a ha z => r.dj a ha (List.mem_cons_of_mem _ z), r.sp, r.ln, fun i o e => ?_, r.nd⟩
  obtain ⟨v, ev, h⟩ := r.sh i o e
  refine ⟨v, ev, ?_⟩
  cases o with
  | v x => exact ShV.sub sb h
  | l xs => obtain ⟨a, vs, ea, ha, e1, im⟩ := h; exact ⟨a, vs, ea, ha, e1, ImAll.sub (fun a ha => .inl (sb a ha)) _ im⟩
  | m kvs => obtain ⟨a, ks, ea, ha, e1, nd, im⟩ := h; exact ⟨a, ks, ea, ha, e1, nd, ImKv.sub (fun a ha => .inl (sb a ha)) _ im⟩
/-- .. one's own -/
theorem Rel.inS {D : Addr} (r : Rel C (D :: F) M S H σ δ n) (mf : ∀ a ∈ M, a ∈ F) (hD : D ∉ F) : Rel C F M (D :: S) H σ δ n := by
  have sb : ∀ a ∈ (D :: S) ++ F, a ∈ S ++ D :: F := fun a ha => mem_sw.mpr ha
  refine ⟨fun a ha => r.al a (sb a ha), mf, fun a ha z => ?_, r.sp, r.ln, fun i o e => ?_, r.nd⟩
  · rcases List.mem_cons.mp ha with e | ha
    · exact hD (e ▸ z)
    · exact r.dj a ha (List.mem_cons_of_mem _ z)
  obtain ⟨v, ev, h⟩ := r.sh i o e
  refine ⟨v, ev, ?_⟩
  cases o with
  | v x => exact ShV.sub sb h
  | l xs => obtain ⟨a, vs, ea, ha, e1, im⟩ := h; exact ⟨a, vs, ea, List.mem_cons_of_mem _ ha, e1, ImAll.sub (fun a ha => .inl (sb a ha)) _ im⟩
  | m kvs => obtain ⟨a, ks, ea, ha, e1, nd, im⟩ := h; exact ⟨a, ks, ea, List.mem_cons_of_mem _ ha, e1, nd, ImKv.sub (fun a ha => .inl (sb a ha)) _ im⟩
/-- a new object, kept from change -/
theorem Rel.inF {D : Addr} (r : Rel C F M S H σ δ n) (nD : H D = none) (g : Nx [] H H') (hD : H' D ≠ none) : Rel C (D :: F) M S H' σ δ n := by
  have ap : ∀ a ∈ S ++ D :: F, a ∈ S ++ F ∨ H a = none := fun a ha => (List.mem_cons.mp (mem_sw.mp ha)).elim (fun e => .inr (by rw [e]; exact nD)) .inl
  have pU : D ∉ S ++ F := fun z => r.al D z nD
  refine ⟨fun a ha => ?_, fun a ha => List.mem_cons_of_mem _ (r.mf a ha), fun a ha z => ?_, fun s hs => (r.sp s hs).nx g (by simp), r.ln, fun i o e => ?_, r.nd⟩
  · rcases List.mem_cons.mp (mem_sw.mp ha) with e | z
    · rw [e]; exact hD
    · exact g.th a (r.al a z)
  · rcases List.mem_cons.mp z with e | z
    · exact pU (List.mem_append_left _ (e ▸ ha))
    · exact r.dj a ha z
  obtain ⟨v, ev, h⟩ := r.sh i o e
  refine ⟨v, ev, ?_⟩
  cases o with
  | v x =>
    cases x with
    | d x => exact Im.to h ap g.of0
    | ring k A => obtain ⟨a, e, r⟩ := h; exact ⟨a, e, r.to ap g.of0⟩
    | s => exact h
    | ty t => exact h
    | raw u => exact h
  | l xs => obtain ⟨a, vs, ea, ha, e1, im⟩ := h; exact ⟨a, vs, ea, ha, g.kp a _ (by simp) e1, im.to ap g.of0⟩
  | m kvs => obtain ⟨a, ks, ea, ha, e1, nd, im⟩ := h; exact ⟨a, ks, ea, ha, g.kp a _ (by simp) e1, nd, im.to ap g.of0⟩
theorem Rel.nx0 (r : Rel C F M S H σ δ n) (g : Nx [] H H') : Rel C F M S H' σ δ n := r.stp g (by simp) fun s hs => (r.sp s hs).nx g (by simp)
theorem Rel.le {m : Nat} (r : Rel C F M S H σ δ n) (h : n ≤ m) : Rel C F M S H σ δ m := ⟨r.al, r.mf, r.dj, fun s hs => (r.sp s hs).le h, r.ln, r.sh, r.nd⟩
/-- a new object of one's own, in no slot yet -/
theorem Rel.new (r : Rel C F M S H σ δ n) {p : Addr} (np : H p = none) (g : Nx [] H H') (hp : H' p ≠ none) : Rel C F M (p :: S) H' σ δ n := by
  have gs : Stp M S H (p :: S) H' := .add np g
  have pF : p ∉ F := fun z => r.al p (List.mem_append_right _ z) np
  refine ⟨fun a ha => ?_, r.mf, fun a ha => ?_, fun s hs => (r.sp s hs).nx g (by simp), r.ln, fun i o e => ?_, r.nd⟩
  · rcases List.mem_cons.mp ha with e | ha
    · rw [e]; exact hp
    · exact g.th a (r.al a ha)
  · rcases List.mem_cons.mp ha with e | ha
    · rw [e]; exact pF
    · exact r.dj a ha
  · obtain ⟨v, ev, h⟩ := r.sh i o e
    refine ⟨v, ev, ?_⟩
    cases o with
    | v x => exact ShV.stp gs r.mf h
    | l xs =>
      obtain ⟨a, vs, ea, ha, e1, im⟩ := h
      exact ⟨a, vs, ea, List.mem_cons_of_mem _ ha, g.kp a _ (by simp) e1, im.stp gs r.mf⟩
    | m kvs =>
      obtain ⟨a, ks, ea, ha, e1, nd, im⟩ := h
      exact ⟨a, ks, ea, List.mem_cons_of_mem _ ha, g.kp a _ (by simp) e1, nd, im.stp gs r.mf⟩
theorem Rel.fr (r : Rel C F M S H σ δ n) {p : Addr} (np : H p = none) : p ∉ S ++ F := fun z => r.al p z np
/-- a slot set to a value -/
theorem Rel.set (r : Rel C F M S H σ δ n) {i : Nat} {v : V} {x : DV} (h : ShV C (S ++ F) M H v x) : Rel C F M S H (σ.set i (some v)) (δ.set i (some (.v x))) n := by
  refine ⟨r.al, r.mf, r.dj, r.sp, by rw [List.length_set, List.length_set, r.ln], fun j o e => ?_, fun j k o o' a hjk e1 e2 o1 o2 s1 s2 => ?_⟩
  · rw [List.getElem?_set] at e ⊢
    by_cases hij : i = j
    · subst hij
      rw [if_pos rfl] at e ⊢
      by_cases hl : i < δ.length
      · rw [if_pos hl] at e
        cases e
        exact ⟨v, by rw [r.ln, if_pos hl], h⟩
      · rw [if_neg hl] at e; cases e
    · rw [if_neg hij] at e ⊢
      exact r.sh j o e
  · rw [List.getElem?_set] at e1 e2 s1 s2
    by_cases h1 : i = j
    · rw [if_pos h1] at e1
      split at e1
      · cases e1; exact o1
      · cases e1
    · by_cases h2 : i = k
      · rw [if_pos h2] at e2
        split at e2
        · cases e2; exact o2
        · cases e2
      · rw [if_neg h1] at e1 s1
        rw [if_neg h2] at e2 s2
        exact r.nd j k o o' a hjk e1 e2 o1 o2 s1 s2
/-- a slot forgotten -/
theorem Rel.drop (r : Rel C F M S H σ δ n) {i : Nat} {ov : Option V} : Rel C F M S H (σ.set i ov) (δ.set i none) n := by
  refine ⟨r.al, r.mf, r.dj, r.sp, by rw [List.length_set, List.length_set, r.ln], fun j o e => ?_, fun j k o o' a hjk e1 e2 o1 o2 s1 s2 => ?_⟩
  · rw [List.getElem?_set] at e ⊢
    by_cases hij : i = j
    · subst hij
      rw [if_pos rfl] at e
      split at e <;> cases e
    · rw [if_neg hij] at e ⊢
      exact r.sh j o e
  · rw [List.getElem?_set] at e1 e2 s1 s2
    by_cases h1 : i = j
    · rw [if_pos h1] at e1
      split at e1 <;> cases e1
    · by_cases h2 : i = k
      · rw [if_pos h2] at e2
        split at e2 <;> cases e2
      · rw [if_neg h1] at e1 s1
        rw [if_neg h2] at e2 s2
        exact r.nd j k o o' a hjk e1 e2 o1 o2 s1 s2
/-- a slot of one's own is no longer changed -/
theorem Rel.freeze (r : Rel C F M S H σ δ n) {i : Nat} {o : DO} (e : δ[i]? = some (some o)) (ho : o.own) : ∃ v S1, σ[i]? = some (some v) ∧ Stp M S H S1 H ∧ Rel C F M S1 H σ (δ.set i (some (.v o.val))) n ∧ ShV C (S1 ++ F) M H v o.val := by
  obtain ⟨v, ev, h⟩ := r.sh i o e
  obtain ⟨a, ea, ha, key⟩ : ∃ a, v = .ref a ∧ a ∈ S ∧ ∀ U, a ∉ U → (∀ x ∈ U, x ∈ S ++ F) → ShV C U M H v o.val := by
    cases o with
    | v x => exact ho.elim
    | l xs =>
      obtain ⟨a, vs, ea, ha, e1, im⟩ := h
      exact ⟨a, ea, ha, fun U hU sub => by rw [ea]; exact .lst hU (.inl e1) (ImAll.sub (fun x hx => .inl (sub x hx)) _ im)⟩
    | m kvs =>
      obtain ⟨a, ks, ea, ha, e1, nd, im⟩ := h
      exact ⟨a, ea, ha, fun U hU sub => by rw [ea]; exact .dct hU (.inl e1) nd (ImKv.sub (fun x hx => .inl (sub x hx)) _ im)⟩
  refine ⟨v, S.filter (fun x => decide (x ≠ a)), ev, .less fun x hx => (List.mem_filter.mp hx).1, ?_, ?_⟩
  rotate_left
  · refine key _ (fun z => ?_) (fun x hx => ?_)
    · rcases List.mem_append.mp z with z | z
      · have := (List.mem_filter.mp z).2; simp at this
      · exact r.dj a ha z
    · exact (List.mem_append.mp hx).elim (fun z => List.mem_append_left _ (List.mem_filter.mp z).1) (List.mem_append_right _)
  have subU : ∀ x ∈ S.filter (fun x => decide (x ≠ a)) ++ F, x ∈ S ++ F := fun x hx => (List.mem_append.mp hx).elim (fun z => List.mem_append_left _ (List.mem_filter.mp z).1) (List.mem_append_right _)
  have gs : Stp M S H (S.filter (fun x => decide (x ≠ a))) H := .less fun x hx => (List.mem_filter.mp hx).1
  refine ⟨fun x hx => r.al x (subU x hx), r.mf, fun x hx => r.dj x (List.mem_filter.mp hx).1, r.sp, by rw [List.length_set, r.ln], fun j o2 e2 => ?_, fun j k o1 o2 b hjk e1 e2 w1 w2 s1 s2 => ?_⟩
  · rw [List.getElem?_set] at e2
    by_cases hij : i = j
    · subst hij
      rw [if_pos rfl, if_pos (List.getElem?_eq_some_iff.mp e).1] at e2
      cases e2
      refine ⟨v, ev, key _ (fun z => ?_) subU⟩
      rcases List.mem_append.mp z with z | z
      · have := (List.mem_filter.mp z).2; simp at this
      · exact r.dj a ha z
    · rw [if_neg hij] at e2
      obtain ⟨v2, ev2, h2⟩ := r.sh j o2 e2
      refine ⟨v2, ev2, ?_⟩
      have ne : ∀ b, o2.own → v2 = .ref b → b ∈ S → b ∈ S.filter (fun x => decide (x ≠ a)) := fun b hw eb hb => List.mem_filter.mpr ⟨hb, by
        refine decide_eq_true fun z => ?_
        exact r.nd i j o o2 a hij e e2 ho hw (by rw [ev, ea]) (by rw [ev2, eb, z])⟩
      cases o2 with
      | v x => exact ShV.stp gs r.mf h2
      | l xs =>
        obtain ⟨b, vs, eb, hb, e3, im⟩ := h2
        exact ⟨b, vs, eb, ne b trivial eb hb, e3, im.stp gs r.mf⟩
      | m kvs =>
        obtain ⟨b, ks, eb, hb, e3, nd, im⟩ := h2
        exact ⟨b, ks, eb, ne b trivial eb hb, e3, nd, im.stp gs r.mf⟩
  · rw [List.getElem?_set] at e1 e2
    by_cases h1 : i = j
    · rw [if_pos h1] at e1
      split at e1
      · cases e1; exact w1
      · cases e1
    · by_cases h2 : i = k
      · rw [if_pos h2] at e2
        split at e2
        · cases e2; exact w2
        · cases e2
      · rw [if_neg h1] at e1
        rw [if_neg h2] at e2
        exact r.nd j k o1 o2 b hjk e1 e2 w1 w2 s1 s2
end
end RG

/-! the data layer: from readings over the heap (te) to readings over data (de): TD te de, by the shape of te -/
namespace RG
open PySem PySem.Spec PyProof.Rows L2
abbrev DTE := DSt → Nat → (DV → DSt → Nat → Prop) → Prop
abbrev DTT := DSt → Nat → (Bool → DSt → Nat → Prop) → Prop
abbrev DTA := DSt → Nat → (List DV → DSt → Nat → Prop) → Prop
structure DEnds where
  nx : DSt → Nat → Prop
  rt : DV → Nat → Prop
  bk : DSt → Nat → Prop := fun _ _ => False
  ct : DSt → Nat → Prop := fun _ _ => False
abbrev DTS := DEnds → DSt → Nat → Prop
/-- an operand: a value, or what a slot holds when it is used -/
inductive RV where
  | val (x : DV)
  | slot (i : Nat)
def RV.at (δ : DSt) : RV → Option DV
  | .val x => some x
  | .slot i => (δ[i]?.join).map DO.val
abbrev DTB := DSt → Nat → (RV → DSt → Nat → Prop) → Prop
/-- the root may be one's own -/
def ImR (U : List Addr) (H : Hp) (v : V) : PyData → Prop
  | .list xs => ∃ a vs, v = .ref a ∧ Rd H a (.lst vs) ∧ ImAll U H vs xs
  | .tuple xs => ∃ a vs, v = .ref a ∧ Rd H a (.tup vs) ∧ ImAll U H vs xs
  | .dict ds => ∃ a ks, v = .ref a ∧ Rd H a (.dK ks) ∧ (ks.map (·.1)).Nodup ∧ ImKv U H ks ds
  | x => Im U H v x
theorem ImR.of {U : List Addr} {H : Hp} {v : V} {x : PyData} (h : Im U H v x) : ImR U H v x := by
  cases h with
  | lst n r a => exact ⟨_, _, rfl, r, a⟩
  | tup n r a => exact ⟨_, _, rfl, r, a⟩
  | dct n r nd a => exact ⟨_, _, rfl, r, nd, a⟩
  | non => exact .non
  | bl b => exact .bl b
  | int i => exact .int i
  | str s => exact .str s
def ShR (C : Addr) (U M : List Addr) (H : Hp) (v : V) : DV → Prop
  | .d x => ImR U H v x
  | x => ShV C U M H v x
section
variable {C : Addr} {U M : List Addr} {H : Hp}
theorem sh_int (i : Int) : ShV C U M H (.int i) (.d (.int i)) := Im.int i
theorem sh_str (x : Str) : ShV C U M H (.str x) (.d (.str x)) := Im.str x
theorem sh_bl (b : Bool) : ShV C U M H (.bl b) (.d (.bool b)) := Im.bl b
theorem sh_non : ShV C U M H .non (.d .none) := Im.non
end
theorem ShR.of {C : Addr} {U M : List Addr} {H : Hp} {v : V} {x : DV} (h : ShV C U M H v x) : ShR C U M H v x := by
  cases x with
  | d x => exact ImR.of h
  | ring k A => exact h
  | s => exact h
  | ty t => exact h
  | raw u => exact h
theorem ShO.r {C : Addr} {S F M : List Addr} {H : Hp} {v : V} {o : DO} (h : ShO C S F M H v o) : ShR C (S ++ F) M H v o.val := by
  cases o with
  | v x => exact ShR.of h
  | l xs =>
    obtain ⟨a, vs, e, _, e1, im⟩ := h
    exact ⟨a, vs, e, .inl e1, im⟩
  | m kvs =>
    obtain ⟨a, ks, e, _, e1, nd, im⟩ := h
    exact ⟨a, ks, e, .inl e1, nd, im⟩
def RVok (C : Addr) (U M : List Addr) (H : Hp) (σ : L2.St) (v : V) : RV → Prop
  | .val x => ShV C U M H v x
  | .slot i => σ[i]? = some (some v)
section
variable {C : Addr} {F M S S' : List Addr} {H H' : Hp} {σ : L2.St} {δ : DSt} {n : Nat} {v : V}
theorem RVok.stp {rv : RV} (g : Stp M S H S' H') (mf : ∀ a ∈ M, a ∈ F) (h : RVok C (S ++ F) M H σ v rv) : RVok C (S' ++ F) M H' σ v rv := by
  cases rv with
  | val x => exact ShV.stp g mf h
  | slot i => exact h
theorem RVok.use {rv : RV} {x : DV} (r : Rel C F M S H σ δ n) (h : RVok C (S ++ F) M H σ v rv) (e : rv.at δ = some x) : ShR C (S ++ F) M H v x := by
  cases rv with
  | val y => cases e; exact ShR.of h
  | slot i =>
    obtain ⟨o, eo, rfl⟩ := Option.map_eq_some_iff.mp (show (δ[i]?.join).map DO.val = some x from e)
    obtain ⟨w, ew, h2⟩ := r.sh i o (Option.join_eq_some_iff.mp eo)
    have h' : σ[i]? = some (some v) := h
    rw [h'] at ew
    cases ew
    exact h2.r
end
/-- te is read as de -/
def TD (C : Addr) (te : TE) (de : DTE) : Prop := ∀ {F M S : List Addr} {H : Hp} {σ : L2.St} {δ : DSt} {n : Nat} {R : DV → DSt → Nat → Prop} {Q : VK}, Rel C F M S H σ δ n → de δ n R →
  (∀ v x S' H' δ' n', Stp M S H S' H' → Rel C F M S' H' σ δ' n' → ShV C (S' ++ F) M H' v x → R x δ' n' → Q v H') → te σ H Q
def TB (C : Addr) (te : TE) (db : DTB) : Prop := ∀ {F M S : List Addr} {H : Hp} {σ : L2.St} {δ : DSt} {n : Nat} {R : RV → DSt → Nat → Prop} {Q : VK}, Rel C F M S H σ δ n → db δ n R →
  (∀ v x S' H' δ' n', Stp M S H S' H' → Rel C F M S' H' σ δ' n' → RVok C (S' ++ F) M H' σ v x → R x δ' n' → Q v H') → te σ H Q
def TDT (C : Addr) (tt : TT) (dt : DTT) : Prop := ∀ {F M S : List Addr} {H : Hp} {σ : L2.St} {δ : DSt} {n : Nat} {R : Bool → DSt → Nat → Prop} {Q : Bool → Hp → Prop}, Rel C F M S H σ δ n → dt δ n R →
  (∀ b S' H' δ' n', Stp M S H S' H' → Rel C F M S' H' σ δ' n' → R b δ' n' → Q b H') → tt σ H Q
inductive ShVs (C : Addr) (U M : List Addr) (H : Hp) : List V → List DV → Prop
  | nil : ShVs C U M H [] []
  | cons {v : V} {x : DV} {vs : List V} {xs : List DV} : ShV C U M H v x → ShVs C U M H vs xs → ShVs C U M H (v :: vs) (x :: xs)
inductive ShRs (C : Addr) (U M : List Addr) (H : Hp) : List V → List DV → Prop
  | nil : ShRs C U M H [] []
  | cons {v : V} {x : DV} {vs : List V} {xs : List DV} : ShR C U M H v x → ShRs C U M H vs xs → ShRs C U M H (v :: vs) (x :: xs)
inductive RVs (C : Addr) (U M : List Addr) (H : Hp) (σ : L2.St) : List V → List RV → Prop
  | nil : RVs C U M H σ [] []
  | cons {v : V} {x : RV} {vs : List V} {xs : List RV} : RVok C U M H σ v x → RVs C U M H σ vs xs → RVs C U M H σ (v :: vs) (x :: xs)
def TDA (C : Addr) (ta : TA) (da : DTA) : Prop := ∀ {F M S : List Addr} {H : Hp} {σ : L2.St} {δ : DSt} {n : Nat} {R : List DV → DSt → Nat → Prop} {Q : List V → Hp → Prop}, Rel C F M S H σ δ n → da δ n R →
  (∀ vs xs S' H' δ' n', Stp M S H S' H' → Rel C F M S' H' σ δ' n' → ShVs C (S' ++ F) M H' vs xs → R xs δ' n' → Q vs H') → ta σ H Q
abbrev DTBA := DSt → Nat → (List RV → DSt → Nat → Prop) → Prop
def TBA (C : Addr) (ta : TA) (da : DTBA) : Prop := ∀ {F M S : List Addr} {H : Hp} {σ : L2.St} {δ : DSt} {n : Nat} {R : List RV → DSt → Nat → Prop} {Q : List V → Hp → Prop}, Rel C F M S H σ δ n → da δ n R →
  (∀ vs xs S' H' δ' n', Stp M S H S' H' → Rel C F M S' H' σ δ' n' → RVs C (S' ++ F) M H' σ vs xs → R xs δ' n' → Q vs H') → ta σ H Q
/-- a new list or dict -/
def NewO (U : List Addr) (H : Hp) (p : Addr) : DO → Prop
  | .l xs => ∃ vs, H p = some (.lst vs) ∧ ImAll U H vs xs
  | .m kvs => ∃ ks, H p = some (.dK ks) ∧ (ks.map (·.1)).Nodup ∧ ImKv U H ks kvs
  | .v _ => False
abbrev DTF := DSt → Nat → (DO → DSt → Nat → Prop) → Prop
def TDF (C : Addr) (te : TE) (df : DTF) : Prop := ∀ {F M S : List Addr} {H : Hp} {σ : L2.St} {δ : DSt} {n : Nat} {R : DO → DSt → Nat → Prop} {Q : VK}, Rel C F M S H σ δ n → df δ n R →
  (∀ p o S' H' δ' n', Stp M S H S' H' → Rel C F M S' H' σ δ' n' → Rel C F M (p :: S') H' σ δ' n' → H p = none → p ∉ S' → p ∉ F → NewO (p :: (S' ++ F)) H' p o → R o δ' n' → Q (.ref p) H') → te σ H Q
def TDS (C : Addr) (ts : TS) (ds : DTS) : Prop := ∀ {F M S : List Addr} {H : Hp} {σ : L2.St} {δ : DSt} {n : Nat} {D : Ends} {DD : DEnds}, Rel C F M S H σ δ n → ds DD δ n →
  (∀ S' H' σ' δ' n', Stp M S H S' H' → Rel C F M S' H' σ' δ' n' → DD.nx δ' n' → D.nx σ' H') →
  (∀ v x S' H' n', Stp M S H S' H' → (∀ s ∈ M, Spr H' s n') → ShV C (S' ++ F) M H' v x → DD.rt x n' → D.rt v H') →
  (∀ S' H' σ' δ' n', Stp M S H S' H' → Rel C F M S' H' σ' δ' n' → DD.bk δ' n' → D.bk σ' H') →
  (∀ S' H' σ' δ' n', Stp M S H S' H' → Rel C F M S' H' σ' δ' n' → DD.ct δ' n' → D.ct σ' H') → ts D σ H
section
variable {C : Addr}
/-! ### operands -/
def dB (de : DTE) : DTB := fun δ n R => de δ n fun x δ' n' => R (.val x) δ' n'
theorem tb_of {te : TE} {de : DTE} (h : TD C te de) : TB C te (dB de) := fun r hd hq => h r hd fun v x S' H' δ' n' g r' s hk => hq v (.val x) S' H' δ' n' g r' s hk
def dSlot (i : Nat) : DTB := fun δ n R => ∃ o, δ[i]? = some (some o) ∧ R (.slot i) δ n
theorem tb_var {i : Nat} : TB C (tVar i) (dSlot i) := fun r ⟨o, e, h⟩ hq => by
  obtain ⟨v, ev, _⟩ := r.sh i o e
  exact ⟨v, ev, hq v (.slot i) _ _ _ _ .refl r ev h⟩
/-! ### values -/
def dC (x : DV) : DTE := fun δ n R => R x δ n
theorem td_int {i : Int} : TD C (tC (.int i)) (dC (.d (.int i))) := fun r h hq => hq _ _ _ _ _ _ .refl r (sh_int i) h
theorem td_str {x : Str} : TD C (tC (.str x)) (dC (.d (.str x))) := fun r h hq => hq _ _ _ _ _ _ .refl r (sh_str x) h
theorem td_bl {b : Bool} : TD C (tC (.bl b)) (dC (.d (.bool b))) := fun r h hq => hq _ _ _ _ _ _ .refl r (sh_bl b) h
theorem td_non : TD C (tC .non) (dC (.d .none)) := fun r h hq => hq _ _ _ _ _ _ .refl r sh_non h
/-- a slot's value; what was one's own is no longer changed -/
def dVar (i : Nat) : DTE := fun δ n R => (∃ x, δ[i]? = some (some (.v x)) ∧ R x δ n) ∨ ∃ o, δ[i]? = some (some o) ∧ o.own ∧ R o.val (δ.set i (some (.v o.val))) n
theorem td_var {i : Nat} : TD C (tVar i) (dVar i) := fun r h hq => by
  rcases h with ⟨x, e, h⟩ | ⟨o, e, ho, h⟩
  · obtain ⟨v, ev, sh⟩ := r.getV e
    exact ⟨v, ev, hq v x _ _ _ _ .refl r sh h⟩
  · obtain ⟨v, S1, ev, g, r1, sh⟩ := r.freeze e ho
    exact ⟨v, ev, hq v o.val _ _ _ _ g r1 sh h⟩
/-! ### arguments -/
def dNil : DTA := fun δ n R => R [] δ n
def dCons (de : DTE) (da : DTA) : DTA := fun δ n R => de δ n fun x δ1 n1 => da δ1 n1 fun xs δ2 n2 => R (x :: xs) δ2 n2
theorem tda_nil : TDA C tNil dNil := fun r h hq => hq _ _ _ _ _ _ .refl r .nil h
theorem tda_cons {te : TE} {ta : TA} {de : DTE} {da : DTA} (h1 : TD C te de) (h2 : TDA C ta da) : TDA C (tCons te ta) (dCons de da) := fun r h hq =>
  h1 r h fun v x S1 H1 δ1 n1 g1 r1 s1 h => h2 r1 h fun vs xs S2 H2 δ2 n2 g2 r2 s2 h => hq _ _ _ _ _ _ (g1.trans g2) r2 (.cons (s1.stp g2 r.mf) s2) h
def dBNil : DTBA := fun δ n R => R [] δ n
def dBCons (de : DTB) (da : DTBA) : DTBA := fun δ n R => de δ n fun x δ1 n1 => da δ1 n1 fun xs δ2 n2 => R (x :: xs) δ2 n2
theorem tba_nil : TBA C tNil dBNil := fun r h hq => hq _ _ _ _ _ _ .refl r .nil h
theorem tba_cons {te : TE} {ta : TA} {de : DTB} {da : DTBA} (h1 : TB C te de) (h2 : TBA C ta da) : TBA C (tCons te ta) (dBCons de da) := fun r h hq =>
  h1 r h fun v x S1 H1 δ1 n1 g1 r1 s1 h => h2 r1 h fun vs xs S2 H2 δ2 n2 g2 r2 s2 h => hq _ _ _ _ _ _ (g1.trans g2) r2 (.cons (RVok.stp g2 r.mf s1) s2) h
def atAll (δ : DSt) : List RV → Option (List DV)
  | [] => some []
  | r :: rs => match r.at δ, atAll δ rs with
    | some x, some xs => some (x :: xs)
    | _, _ => none
theorem RVs.use {F M S : List Addr} {H : Hp} {σ : L2.St} {δ : DSt} {n : Nat} (r : Rel C F M S H σ δ n) : ∀ {vs : List V} {rs : List RV} {xs : List DV}, RVs C (S ++ F) M H σ vs rs → atAll δ rs = some xs → ShRs C (S ++ F) M H vs xs
  | _, _, _, .nil, e => by cases e; exact .nil
  | _, _, _, .cons h t, e => by
    unfold atAll at e
    split at e
    · rename_i x xs e1 e2
      cases e
      exact .cons (h.use r e1) (RVs.use r t e2)
    · cases e
/-! ### operators: f tells what comes of data -/
abbrev F2 := DV → DV → (DV → Prop) → Prop
def BinOk (C : Addr) (r : R2) (f : F2) : Prop := ∀ {U M : List Addr} {H : Hp} {v w : V} {a b : DV} {k : DV → Prop} {Q : VK}, ShR C U M H v a → ShR C U M H w b → f a b k → (∀ u c, ShV C U M H u c → k c → Q u H) → r v w H Q
def dOp (f : F2) (da db : DTB) : DTE := fun δ n R => da δ n fun ra δ1 n1 => db δ1 n1 fun rb δ2 n2 => ∃ a b, ra.at δ2 = some a ∧ rb.at δ2 = some b ∧ f a b fun c => R c δ2 n2
theorem td_op {r : R2} {f : F2} {ta tb : TE} {da db : DTB} (ha : TB C ta da) (hb : TB C tb db) (ok : BinOk C r f) : TD C (tOp r ta tb) (dOp f da db) := fun r h hq =>
  ha r h fun v x S1 H1 δ1 n1 g1 r1 s1 h => hb r1 h fun w y S2 H2 δ2 n2 g2 r2 s2 ⟨a, b, ea, eb, h⟩ =>
    ok ((RVok.stp g2 r.mf s1).use r2 ea) (s2.use r2 eb) h fun u c sc hk => hq _ _ _ _ _ _ (g1.trans g2) r2 sc hk
abbrev F1 := DV → (DV → Prop) → Prop
def UnOk (C : Addr) (r : V → Hp → VK → Prop) (f : F1) : Prop := ∀ {U M : List Addr} {H : Hp} {v : V} {a : DV} {k : DV → Prop} {Q : VK}, ShR C U M H v a → f a k → (∀ u c, ShV C U M H u c → k c → Q u H) → r v H Q
def dUn (f : F1) (da : DTB) : DTE := fun δ n R => da δ n fun ra δ1 n1 => ∃ a, ra.at δ1 = some a ∧ f a fun c => R c δ1 n1
theorem td_un {r : V → Hp → VK → Prop} {f : F1} {ta : TE} {da : DTB} (ha : TB C ta da) (ok : UnOk C r f) : TD C (tUn r ta) (dUn f da) := fun r h hq =>
  ha r h fun v x S1 H1 δ1 n1 g1 r1 s1 ⟨a, ea, h⟩ => ok (s1.use r1 ea) h fun u c sc hk => hq _ _ _ _ _ _ g1 r1 sc hk
/-- a built-in's call; args as operands -/
abbrev FA := List DV → (DV → Prop) → Prop
def CallOk (C : Addr) (r : List V → Hp → VK → Prop) (f : FA) : Prop := ∀ {U M : List Addr} {H : Hp} {vs : List V} {as : List DV} {k : DV → Prop} {Q : VK}, Al U H → ShRs C U M H vs as → f as k → (∀ u c H', Nx [] H H' → ShV C U M H' u c → k c → Q u H') → r vs H Q
def dCB (f : FA) (da : DTBA) : DTE := fun δ n R => da δ n fun rs δ1 n1 => ∃ xs, atAll δ1 rs = some xs ∧ f xs fun c => R c δ1 n1
theorem td_cb {r : List V → Hp → VK → Prop} {f : FA} {ta : TA} {da : DTBA} (ha : TBA C ta da) (ok : CallOk C r f) : TD C (tCB r ta) (dCB f da) := fun r h hq =>
  ha r h fun vs rs S1 H1 δ1 n1 g1 r1 s1 ⟨xs, e, h⟩ => ok r1.al (RVs.use r1 s1 e) h fun u c H2 g2 sc hk => hq _ _ _ _ _ _ (g1.trans (.of0 g2)) (r1.nx0 g2) sc hk
/-- .. that makes a list or a dict -/
abbrev FN := List DV → (DO → Prop) → Prop
def NewOk (C : Addr) (r : List V → Hp → VK → Prop) (f : FN) : Prop := ∀ {U M : List Addr} {H : Hp} {vs : List V} {as : List DV} {k : DO → Prop} {Q : VK}, Al U H → ShRs C U M H vs as → f as k → (∀ p o H', H p = none → Nx [] H H' → H' p ≠ none → NewO (p :: U) H' p o → k o → Q (.ref p) H') → r vs H Q
def dNB (f : FN) (da : DTBA) : DTF := fun δ n R => da δ n fun rs δ1 n1 => ∃ xs, atAll δ1 rs = some xs ∧ f xs fun o => R o δ1 n1
theorem tdf_nb {r : List V → Hp → VK → Prop} {f : FN} {ta : TA} {da : DTBA} (ha : TBA C ta da) (ok : NewOk C r f) : TDF C (tCB r ta) (dNB f da) := fun r h hq =>
  ha r h fun vs rs S1 H1 δ1 n1 g1 r1 s1 ⟨xs, e, h⟩ => ok r1.al (RVs.use r1 s1 e) h fun p o H' np g hp no hk =>
    hq p o S1 H' δ1 n1 (g1.trans (.of0 g)) (r1.nx0 g) (r1.new np g hp) (g1.nx.fresh np) (fun z => r1.fr np (List.mem_append_left _ z)) (fun z => r1.fr np (List.mem_append_right _ z)) no hk
/-- such a new thing as a value -/
def dFrz (df : DTF) : DTE := fun δ n R => df δ n fun o δ' n' => R o.val δ' n'
theorem NewO.val {U M : List Addr} {H : Hp} {p : Addr} {o : DO} (h : NewO (p :: U) H p o) (n : p ∉ U) : ShV C U M H (.ref p) o.val := by
  cases o with
  | v x => exact h.elim
  | l xs => obtain ⟨vs, e, im⟩ := h; exact Im.lst n (.inl e) im.tail
  | m kvs => obtain ⟨ks, e, nd, im⟩ := h; exact Im.dct n (.inl e) nd im.tail
theorem td_frz {te : TE} {df : DTF} (h : TDF C te df) : TD C te (dFrz df) := fun r hd hq => h r hd fun p o S' H' δ' n' g r' _ np h1 h2 no hk =>
  hq _ _ _ _ _ _ g r' (NewO.val no fun z => (List.mem_append.mp z).elim h1 h2) hk
/-! ### new lists, tuples -/
theorem shvs_im {U M : List Addr} {H : Hp} : ∀ {vs : List V} {ds : List PyData}, ShVs C U M H vs (ds.map DV.d) → ImAll U H vs ds
  | _, [], h => by cases h; exact .nil
  | _, d :: r, h => by cases h with | cons a t => exact .cons a (shvs_im t)
def dLst (da : DTA) : DTF := fun δ n R => da δ n fun xs δ' n' => ∃ ds : List PyData, xs = ds.map DV.d ∧ ds.length ≤ 1000 ∧ R (.l ds) δ' n'
theorem tdf_lst {ta : TA} {da : DTA} (h : TDA C ta da) : TDF C (tLst ta) (dLst da) := fun r hd hq => h r hd fun vs xs S1 H1 δ1 n1 g1 r1 s1 ⟨ds, e, hl, hk⟩ => by
  subst e
  have im := shvs_im s1
  refine ⟨Nat.le_trans (by rw [im.length]; exact hl) (show 1000 ≤ sizeLine by decide), fun p np => ?_⟩
  exact hq p (.l ds) S1 _ δ1 n1 (g1.trans (.of0 (.new np))) (r1.nx0 (.new np)) (r1.new np (.new np) (by rw [upd_same]; simp)) (g1.nx.fresh np) (fun z => r1.fr np (List.mem_append_left _ z)) (fun z => r1.fr np (List.mem_append_right _ z)) ⟨vs, upd_same, im.apart np⟩ hk
def dTup (da : DTA) : DTE := fun δ n R => da δ n fun xs δ' n' => ∃ ds : List PyData, xs = ds.map DV.d ∧ ds.length ≤ 1000 ∧ R (.d (.tuple ds)) δ' n'
theorem td_tup {ta : TA} {da : DTA} (h : TDA C ta da) : TD C (tTup ta) (dTup da) := fun r hd hq => h r hd fun vs xs S1 H1 δ1 n1 g1 r1 s1 ⟨ds, e, hl, hk⟩ => by
  subst e
  have im := shvs_im s1
  refine ⟨Nat.le_trans (by rw [im.length]; exact hl) (show 1000 ≤ sizeLine by decide), fun p np => ?_⟩
  exact hq _ (.d (.tuple ds)) S1 _ δ1 n1 (g1.trans (.of0 (.new np))) (r1.nx0 (.new np)) (Im.tup (r1.fr np) (.inl upd_same) (im.nx (.new np))) hk
def dNewM : DTF := fun δ n R => R (.m []) δ n
theorem tdf_newM : TDF C tDNewK dNewM := fun r hd hq p np =>
  hq p (.m []) _ _ _ _ (.of0 (.new np)) (r.nx0 (.new np)) (r.new np (.new np) (by rw [upd_same]; simp)) np (fun z => r.fr np (List.mem_append_left _ z)) (fun z => r.fr np (List.mem_append_right _ z)) ⟨[], upd_same, List.nodup_nil, .nil⟩ hd
/-! ### tests -/
def dTest (de : DTE) : DTT := fun δ n R => de δ n fun x δ' n' => ∃ b, x = .d (.bool b) ∧ R b δ' n'
theorem tdt_test {te : TE} {de : DTE} (h : TD C te de) : TDT C (tTest te) (dTest de) := fun r hd hq => h r hd fun v x S1 H1 δ1 n1 g1 r1 s1 ⟨b, e, hk⟩ => by
  subst e; cases s1; exact ⟨b, rfl, hq _ _ _ _ _ g1 r1 hk⟩
theorem tdt_b {te : TE} {de : DTE} (h : TD C te de) : TDT C (tB te) (dTest de) := fun r hd hq => h r hd fun v x S1 H1 δ1 n1 g1 r1 s1 ⟨b, e, hk⟩ => by
  subst e; cases s1; exact ⟨b, rfl, hq _ _ _ _ _ g1 r1 hk⟩
def dYes : DTT := fun δ n R => R true δ n
theorem tdt_yes : TDT C tYes dYes := fun r hd hq => hq _ _ _ _ _ .refl r hd
def dNot (dt : DTT) : DTT := fun δ n R => dt δ n fun b δ' n' => R (!b) δ' n'
theorem tdt_not {tt : TT} {dt : DTT} (h : TDT C tt dt) : TDT C (tNot tt) (dNot dt) := fun r hd hq => h r hd fun b S1 H1 δ1 n1 g1 r1 hk => hq _ _ _ _ _ g1 r1 hk
def dAnd (a b : DTT) : DTT := fun δ n R => a δ n fun c δ' n' => if c = true then b δ' n' R else R false δ' n'
theorem tdt_and {ta tb : TT} {a b : DTT} (h1 : TDT C ta a) (h2 : TDT C tb b) : TDT C (tAnd ta tb) (dAnd a b) := fun r hd hq => h1 r hd fun c S1 H1 δ1 n1 g1 r1 hk => by
  cases c with
  | true => rw [if_pos rfl] at hk ⊢; exact h2 r1 hk fun b S2 H2 δ2 n2 g2 r2 hk => hq _ _ _ _ _ (g1.trans g2) r2 hk
  | false => rw [if_neg (by decide)] at hk ⊢; exact hq _ _ _ _ _ g1 r1 hk
def dOr (a b : DTT) : DTT := fun δ n R => a δ n fun c δ' n' => if c = true then R true δ' n' else b δ' n' R
theorem tdt_or {ta tb : TT} {a b : DTT} (h1 : TDT C ta a) (h2 : TDT C tb b) : TDT C (tOr ta tb) (dOr a b) := fun r hd hq => h1 r hd fun c S1 H1 δ1 n1 g1 r1 hk => by
  cases c with
  | true => rw [if_pos rfl] at hk ⊢; exact hq _ _ _ _ _ g1 r1 hk
  | false => rw [if_neg (by decide)] at hk ⊢; exact h2 r1 hk fun b S2 H2 δ2 n2 g2 r2 hk => hq _ _ _ _ _ (g1.trans g2) r2 hk
def truD : PyData → Bool
  | .none => false
  | .bool b => b
  | .int i => i != 0
  | .str x => (x.length : Int) != 0
  | .list xs => !xs.isEmpty
  | .tuple xs => !xs.isEmpty
  | .dict ds => !ds.isEmpty
/-! ### ands, ors, choices of values -/
def dAndV (a b : DTE) : DTE := fun δ n R => a δ n fun x δ' n' => ∃ c, x = .d (.bool c) ∧ if c = true then b δ' n' R else R (.d (.bool false)) δ' n'
theorem td_andV {ta tb : TE} {a b : DTE} (h1 : TD C ta a) (h2 : TD C tb b) : TD C (tAndV ta tb) (dAndV a b) := fun r hd hq => h1 r hd fun v x S1 H1 δ1 n1 g1 r1 s1 ⟨c, e, hk⟩ => by
  subst e; cases s1
  refine ⟨c, rfl, ?_⟩
  cases c with
  | true => rw [if_pos rfl] at hk ⊢; exact h2 r1 hk fun v x S2 H2 δ2 n2 g2 r2 s2 hk => hq _ _ _ _ _ _ (g1.trans g2) r2 s2 hk
  | false => rw [if_neg (by decide)] at hk ⊢; exact hq _ _ _ _ _ _ g1 r1 (sh_bl false) hk
def dOrV (a b : DTE) : DTE := fun δ n R => a δ n fun x δ' n' => ∃ c, x = .d (.bool c) ∧ if c = true then R (.d (.bool true)) δ' n' else b δ' n' R
theorem td_orV {ta tb : TE} {a b : DTE} (h1 : TD C ta a) (h2 : TD C tb b) : TD C (tOrV ta tb) (dOrV a b) := fun r hd hq => h1 r hd fun v x S1 H1 δ1 n1 g1 r1 s1 ⟨c, e, hk⟩ => by
  subst e; cases s1
  refine ⟨c, rfl, ?_⟩
  cases c with
  | true => rw [if_pos rfl] at hk ⊢; exact hq _ _ _ _ _ _ g1 r1 (sh_bl true) hk
  | false => rw [if_neg (by decide)] at hk ⊢; exact h2 r1 hk fun v x S2 H2 δ2 n2 g2 r2 s2 hk => hq _ _ _ _ _ _ (g1.trans g2) r2 s2 hk
def dNotV (a : DTE) : DTE := fun δ n R => a δ n fun x δ' n' => ∃ c, x = .d (.bool c) ∧ R (.d (.bool !c)) δ' n'
theorem td_notV {ta : TE} {a : DTE} (h1 : TD C ta a) : TD C (tNotV ta) (dNotV a) := fun r hd hq => h1 r hd fun v x S1 H1 δ1 n1 g1 r1 s1 ⟨c, e, hk⟩ => by
  subst e; cases s1
  exact ⟨c, rfl, hq _ _ _ _ _ _ g1 r1 (sh_bl _) hk⟩
def dIfE (c : DTT) (a b : DTE) : DTE := fun δ n R => c δ n fun z δ' n' => if z = true then a δ' n' R else b δ' n' R
theorem td_if {tc : TT} {ta tb : TE} {c : DTT} {a b : DTE} (hc : TDT C tc c) (h1 : TD C ta a) (h2 : TD C tb b) : TD C (tIf tc ta tb) (dIfE c a b) := fun r hd hq => hc r hd fun z S1 H1 δ1 n1 g1 r1 hk => by
  cases z with
  | true => rw [if_pos rfl] at hk ⊢; exact h1 r1 hk fun v x S2 H2 δ2 n2 g2 r2 s2 hk => hq _ _ _ _ _ _ (g1.trans g2) r2 s2 hk
  | false => rw [if_neg (by decide)] at hk ⊢; exact h2 r1 hk fun v x S2 H2 δ2 n2 g2 r2 s2 hk => hq _ _ _ _ _ _ (g1.trans g2) r2 s2 hk
/-! ### statements -/
def dSeq (a b : DTS) : DTS := fun D δ n => a { D with nx := fun δ' n' => b D δ' n' } δ n
theorem tds_seq {ta tb : TS} {a b : DTS} (h1 : TDS C ta a) (h2 : TDS C tb b) : TDS C (tSeq ta tb) (dSeq a b) := fun {F M S H σ δ n D DD} r hd hn hr hb hc =>
  h1 (D := { D with nx := tb D }) (DD := { DD with nx := fun δ' n' => b DD δ' n' }) r hd
    (fun S1 H1 σ1 δ1 n1 g1 r1 hk => h2 r1 hk (fun S2 H2 σ2 δ2 n2 g2 => hn S2 H2 σ2 δ2 n2 (g1.trans g2)) (fun v x S2 H2 n2 g2 => hr v x S2 H2 n2 (g1.trans g2)) (fun S2 H2 σ2 δ2 n2 g2 => hb S2 H2 σ2 δ2 n2 (g1.trans g2)) (fun S2 H2 σ2 δ2 n2 g2 => hc S2 H2 σ2 δ2 n2 (g1.trans g2)))
    hr hb hc
def dNext : DTS := fun D δ n => D.nx δ n
theorem tds_next : TDS C tNext dNext := fun r hd hn _ _ _ => hn _ _ _ _ _ .refl r hd
def dSet (i : Nat) (de : DTE) : DTS := fun D δ n => de δ n fun x δ' n' => D.nx (δ'.set i (some (.v x))) n'
theorem tds_set {i : Nat} {te : TE} {de : DTE} (h : TD C te de) : TDS C (tAsg te (gName i)) (dSet i de) := fun r hd hn _ _ _ => h r hd fun v x S1 H1 δ1 n1 g1 r1 s1 hk => hn _ _ _ _ _ g1 (r1.set s1) hk
/-- a new list or dict becomes one's own -/
theorem Rel.setO {F M S : List Addr} {H : Hp} {σ : L2.St} {δ : DSt} {n i : Nat} {p : Addr} {o : DO} (r0 : Rel C F M S H σ δ n) (r : Rel C F M (p :: S) H σ δ n) (h1 : p ∉ S) (no : NewO (p :: (S ++ F)) H p o) : Rel C F M (p :: S) H (σ.set i (some (.ref p))) (δ.set i (some o)) n := by
  have other : ∀ (j : Nat) (o' : DO), δ[j]? = some (some o') → o'.own → σ[j]? ≠ some (some (.ref p)) := fun j o' e ho z => by
    obtain ⟨v, ev, h⟩ := r0.sh j o' e
    rw [z] at ev
    cases ev
    cases o' with
    | v x => exact ho
    | l xs => obtain ⟨a, vs, e, ha, _⟩ := h; cases e; exact h1 ha
    | m kvs => obtain ⟨a, vs, e, ha, _⟩ := h; cases e; exact h1 ha
  have me : ShO C (p :: S) F M H (.ref p) o := by
    cases o with
    | v x => exact no.elim
    | l xs => obtain ⟨vs, e, im⟩ := no; exact ⟨p, vs, rfl, List.mem_cons_self, e, im⟩
    | m kvs => obtain ⟨ks, e, nd, im⟩ := no; exact ⟨p, ks, rfl, List.mem_cons_self, e, nd, im⟩
  refine ⟨r.al, r.mf, r.dj, r.sp, by rw [List.length_set, List.length_set, r.ln], fun j o2 e => ?_, fun j k o1 o2 a hjk e1 e2 w1 w2 s1 s2 => ?_⟩
  · rw [List.getElem?_set] at e ⊢
    by_cases hij : i = j
    · subst hij
      rw [if_pos rfl] at e ⊢
      by_cases hl : i < δ.length
      · rw [if_pos hl] at e
        cases e
        exact ⟨.ref p, by rw [r.ln, if_pos hl], me⟩
      · rw [if_neg hl] at e; cases e
    · rw [if_neg hij] at e ⊢
      exact r.sh j o2 e
  · rw [List.getElem?_set] at e1 e2 s1 s2
    by_cases h1 : i = j
    · have h2 : ¬ i = k := fun z => hjk (h1.symm.trans z)
      rw [if_pos h1] at s1
      rw [if_neg h2] at e2 s2
      split at s1
      · cases s1; exact other k o2 e2 w2 s2
      · cases s1
    · rw [if_neg h1] at e1 s1
      by_cases h2 : i = k
      · rw [if_pos h2] at s2
        split at s2
        · cases s2; exact other j o1 e1 w1 s1
        · cases s2
      · rw [if_neg h2] at e2 s2
        exact r.nd j k o1 o2 a hjk e1 e2 w1 w2 s1 s2
def dSetF (i : Nat) (df : DTF) : DTS := fun D δ n => df δ n fun o δ' n' => D.nx (δ'.set i (some o)) n'
theorem tds_setF {i : Nat} {te : TE} {df : DTF} (h : TDF C te df) : TDS C (tAsg te (gName i)) (dSetF i df) := fun r hd hn _ _ _ => h r hd fun p o S1 H1 δ1 n1 g1 r0 r1 np h1 h2 no hk =>
  hn _ _ _ _ _ ⟨g1.nx, fun a ha => (List.mem_cons.mp ha).elim (fun e => .inr (by rw [e]; exact np)) (g1.nw a)⟩ (r0.setO r1 h1 no) hk
def dRet (de : DTE) : DTS := fun D δ n => de δ n fun x _ n' => D.rt x n'
theorem tds_ret {te : TE} {de : DTE} (h : TD C te de) : TDS C (tRet te) (dRet de) := fun r hd _ hr _ _ => h r hd fun v x S1 H1 δ1 n1 g1 r1 s1 hk => hr _ _ _ _ _ g1 r1.sp s1 hk
def dRetN : DTS := fun D _ n => D.rt (.d .none) n
theorem tds_retN : TDS C tRetN dRetN := fun r hd _ hr _ _ => hr _ _ _ _ _ .refl r.sp sh_non hd
def dDrop (de : DTE) : DTS := fun D δ n => de δ n fun _ δ' n' => D.nx δ' n'
theorem tds_drop {te : TE} {de : DTE} (h : TD C te de) : TDS C (tDrop te) (dDrop de) := fun r hd hn _ _ _ => h r hd fun v x S1 H1 δ1 n1 g1 r1 s1 hk => hn _ _ _ _ _ g1 r1 hk
def dIf (c : DTT) (a b : DTS) : DTS := fun D δ n => c δ n fun z δ' n' => if z = true then a D δ' n' else b D δ' n'
theorem tds_if {tc : TT} {ta tb : TS} {c : DTT} {a b : DTS} (hc : TDT C tc c) (h1 : TDS C ta a) (h2 : TDS C tb b) : TDS C (tIfS tc ta tb) (dIf c a b) := fun r hd hn hr hb hct => hc r hd fun z S1 H1 δ1 n1 g1 r1 hk => by
  cases z with
  | true =>
    rw [if_pos rfl] at hk ⊢
    exact h1 r1 hk (fun S2 H2 σ2 δ2 n2 g2 => hn S2 H2 σ2 δ2 n2 (g1.trans g2)) (fun v x S2 H2 n2 g2 => hr v x S2 H2 n2 (g1.trans g2)) (fun S2 H2 σ2 δ2 n2 g2 => hb S2 H2 σ2 δ2 n2 (g1.trans g2)) (fun S2 H2 σ2 δ2 n2 g2 => hct S2 H2 σ2 δ2 n2 (g1.trans g2))
  | false =>
    rw [if_neg (by decide)] at hk ⊢
    exact h2 r1 hk (fun S2 H2 σ2 δ2 n2 g2 => hn S2 H2 σ2 δ2 n2 (g1.trans g2)) (fun v x S2 H2 n2 g2 => hr v x S2 H2 n2 (g1.trans g2)) (fun S2 H2 σ2 δ2 n2 g2 => hb S2 H2 σ2 δ2 n2 (g1.trans g2)) (fun S2 H2 σ2 δ2 n2 g2 => hct S2 H2 σ2 δ2 n2 (g1.trans g2))
end
end RG

/-! the data layer: defs, walks, comprehensions, targets -/
namespace RG
open PySem PySem.Spec PyProof.Rows L2
section
variable {C : Addr}
/-! ### a def's promise over data: W args n R: called so, it returns what R lets, with the springs' bound -/
abbrev WP := List DV → Nat → (DV → Nat → Prop) → Prop
def spW (C : Addr) (W : WP) : Sp := fun vs H Q _ => ∃ (F M : List Addr) (xs : List DV) (n : Nat) (R : DV → Nat → Prop), Al F H ∧ (∀ a ∈ M, a ∈ F) ∧ (∀ s ∈ M, Spr H s n) ∧ ShVs C F M H vs xs ∧ W xs n R ∧
  ∀ v x n' H', Nx M H H' → (∀ s ∈ M, Spr H' s n') → ShV C F M H' v x → R x n' → Q v H'
def dCall (W : WP) (da : DTA) : DTE := fun δ n R => da δ n fun xs δ1 n1 => W xs n1 fun x n2 => R x δ1 n2
theorem td_call {W : WP} {E : XK} {ta : TA} {da : DTA} (ha : TDA C ta da) : TD C (tCall (spW C W) [] E ta) (dCall W da) := fun {F M S H σ δ n R Q} r hd hq => ha r hd fun vs xs S1 H1 δ1 n1 g1 r1 s1 hk => by
  show spW C W (vs ++ []) H1 Q E
  rw [List.append_nil]
  refine ⟨S1 ++ F, M, xs, n1, _, r1.al, fun a ha => List.mem_append_right _ (r1.mf a ha), r1.sp, s1, hk, fun v x n' H' g sp sv hr => ?_⟩
  exact hq v x S1 H' δ1 n' (g1.trans (.of g fun _ h => h)) (r1.stp g r1.mf sp) sv hr
/-- the slots at a def's entry -/
def startD (N : List Str) (xs : List DV) : DSt := xs.map (fun x => some (.v x)) ++ List.replicate (N.length - xs.length) none
theorem ShVs.length {U M : List Addr} {H : Hp} : ∀ {vs : List V} {xs : List DV}, ShVs C U M H vs xs → vs.length = xs.length
  | _, _, .nil => rfl
  | _, _, .cons _ t => by rw [List.length_cons, List.length_cons, ShVs.length t]
theorem ShVs.get {U M : List Addr} {H : Hp} : ∀ {vs : List V} {xs : List DV}, ShVs C U M H vs xs → ∀ {i : Nat} {x : DV}, xs[i]? = some x → ∃ v, vs[i]? = some v ∧ ShV C U M H v x
  | _, _, .nil, i, x, e => by simp at e
  | _, _, .cons a t, 0, x, e => by simp at e; subst e; exact ⟨_, rfl, a⟩
  | _, _, .cons a t, i + 1, x, e => by
    simp at e
    obtain ⟨v, h1, h2⟩ := ShVs.get t e
    exact ⟨v, by simpa using h1, h2⟩
theorem rel_start {F M : List Addr} {H : Hp} {N : List Str} {vs : List V} {xs : List DV} {n : Nat} (al : Al F H) (mf : ∀ a ∈ M, a ∈ F) (sp : ∀ s ∈ M, Spr H s n) (sh : ShVs C F M H vs xs) : Rel C F M [] H (L2.start N vs) (startD N xs) n := by
  have hl := sh.length
  have at_ : ∀ (i : Nat) (o : DO), (startD N xs)[i]? = some (some o) → ∃ x, xs[i]? = some x ∧ o = .v x := fun i o e => by
    unfold startD at e
    by_cases hi : i < (xs.map fun x => some (DO.v x)).length
    · rw [List.getElem?_append_left hi, List.getElem?_map] at e
      cases h : xs[i]? with
      | none => rw [h] at e; cases e
      | some x => rw [h] at e; cases e; exact ⟨x, rfl, rfl⟩
    · rw [List.getElem?_append_right (by omega), List.getElem?_replicate] at e
      split at e <;> cases e
  refine ⟨by simpa using al, mf, by simp, sp, by unfold L2.start startD; simp [hl], fun i o e => ?_, fun i j o o' a hij e1 e2 h1 h2 => ?_⟩
  · obtain ⟨x, ex, rfl⟩ := at_ i o e
    obtain ⟨v, ev, h⟩ := sh.get ex
    have hi : i < (vs.map some).length := by rw [List.length_map]; exact (List.getElem?_eq_some_iff.mp ev).1
    refine ⟨v, ?_, h⟩
    unfold L2.start
    rw [List.getElem?_append_left hi, List.getElem?_map, ev]; rfl
  · obtain ⟨x, _, rfl⟩ := at_ i o e1
    exact h1.elim
theorem okW {P : Program} {w : World} {K : PySem.W.Frag} {mg : Str → Option Value} {base : Heap} {x qual : Str} {params : Arguments} {body : List Stmt} {scope : Scope} {f : Addr} {fd : FuncData} {N ps : List Str} {k : Nat} {W : WP} (F : FunD K x qual params body scope [] [] f fd) (S : FnScope N ps scope) (len : ∀ xs n R, W xs n R → xs.length = ps.length)
    (hbody : ∀ (cdv : Value) (A : Around) (outer : List Env) (s : Shared) (H : Hp) (E : XK), Room k (A.deeper (envOfC qual scope s.heap.objs.size f cdv)) →
      ∃ ts ds, PSs (cxOf CX0 P w K mg base N qual scope f cdv A outer s H E).nox body ts ∧ TDS C ts ds ∧ ∀ xs n R, W xs n R → ds { nx := fun _ n' => R (.d .none) n', rt := R } (startD N xs) n) : FnOk P w K mg base CX0 (k + 1) f fd ps (spW C W) := by
  refine F.ok S (fun vs H Q E h => ?_) (fun cdv A outer s H vs Q E hr h => ?_)
  · obtain ⟨F, M, xs, n, R, _, _, _, sh, hw, _⟩ := h
    rw [sh.length]; exact len xs n R hw
  · obtain ⟨F, M, xs, n, R, al, mf, sp, sh, hw, hq⟩ := h
    obtain ⟨ts, ds, hp, hd, hs⟩ := hbody cdv A outer s H E hr
    have r0 := rel_start (N := N) al mf sp sh
    have fin : ∀ {S' : List Addr} {H' : Hp} {v : V} {x : DV}, Stp M [] H S' H' → ShV C (S' ++ F) M H' v x → Nx M H H' ∧ ShV C F M H' v x := fun {S' H' v x} g sv => by
      refine ⟨by simpa using g.nx, ?_⟩
      have sub : ∀ a ∈ F, a ∈ S' ++ F ∨ H' a = none := fun a ha => .inl (List.mem_append_right _ ha)
      cases x with
      | d y => exact Im.sub sub _ sv
      | ring k A => obtain ⟨a, e, r⟩ := sv; exact ⟨a, e, r.sub sub⟩
      | s => exact sv
      | ty t => exact sv
      | raw u => exact sv
    refine ⟨ts, PSs.nox hp, hd (D := { nx := fun _ H' => Q .non H', rt := Q }) r0 (hs xs n R hw) (fun S' H' σ' δ' n' g r' hk => ?_) (fun v x S' H' n' g sp' sv hk => ?_) (fun _ _ _ _ _ _ _ z => z.elim) (fun _ _ _ _ _ _ _ z => z.elim)⟩
    · obtain ⟨g2, s2⟩ := fin g (x := .d .none) sh_non
      exact hq _ _ _ _ g2 r'.sp s2 hk
    · obtain ⟨g2, s2⟩ := fin g sv
      exact hq _ _ _ _ g2 sp' s2 hk
theorem okW2 {P : Program} {w : World} {K : PySem.W.Frag} {mg : Str → Option Value} {base : Heap} {x qual : Str} {params : Arguments} {body : List Stmt} {scope : Scope} {f : Addr} {fd : FuncData} {N ps : List Str} {k : Nat} {W : WP} {ts : TS} {ds : DTS} (F : FunD K x qual params body scope [] [] f fd) (S : FnScope N ps scope) (len : ∀ xs n R, W xs n R → xs.length = ps.length)
    (hp : ∀ (cdv : Value) (A : Around) (outer : List Env) (s : Shared) (H : Hp) (E : XK), Room k (A.deeper (envOfC qual scope s.heap.objs.size f cdv)) → PSs (cxOf CX0 P w K mg base N qual scope f cdv A outer s H E).nox body ts)
    (hd : TDS C ts ds) (hs : ∀ xs n R, W xs n R → ds { nx := fun _ n' => R (.d .none) n', rt := R } (startD N xs) n) : FnOk P w K mg base CX0 (k + 1) f fd ps (spW C W) :=
  okW F S len fun cdv A outer s H E hr => ⟨ts, ds, hp cdv A outer s H E hr, hd, hs⟩
/-! ### targets -/
abbrev DTG := DV → DSt → Nat → (DSt → Nat → Prop) → Prop
/-- what only the slots ks differ in -/
def Only (ks : List Nat) (σ σ' : L2.St) : Prop := σ'.length = σ.length ∧ ∀ j, j ∉ ks → σ'[j]? = σ[j]?
def TDG (C : Addr) (g : TG) (ks : List Nat) (dg : DTG) : Prop := ∀ {F M S : List Addr} {H : Hp} {σ : L2.St} {δ : DSt} {n : Nat} {v : V} {x : DV} {R : DSt → Nat → Prop} {Q : L2.St → Hp → Prop}, Rel C F M S H σ δ n → ShV C (S ++ F) M H v x → dg x δ n R →
  (∀ S' H' σ' δ' n', Stp M S H S' H' → Rel C F M S' H' σ' δ' n' → Only ks σ σ' → R δ' n' → Q σ' H') → g v σ H Q
def gN (i : Nat) : DTG := fun x δ n R => R (δ.set i (some (.v x))) n
theorem only_set {i : Nat} {σ : L2.St} {o : Option V} : Only [i] σ (σ.set i o) := ⟨List.length_set, fun j hj => List.getElem?_set_ne (fun z => hj (by rw [z]; simp))⟩
theorem Only.trans {a b : List Nat} {σ σ1 σ2 : L2.St} (h1 : Only a σ σ1) (h2 : Only b σ1 σ2) : Only (a ++ b) σ σ2 := ⟨h2.1.trans h1.1, fun j hj => by
  rw [List.mem_append] at hj
  rw [h2.2 j (fun z => hj (.inr z)), h1.2 j (fun z => hj (.inl z))]⟩
theorem tdg_name {i : Nat} : TDG C (gName i) [i] (gN i) := fun r sh hd hq => hq _ _ _ _ _ .refl (r.set sh) only_set hd
abbrev DTGs := List PyData → DSt → Nat → (DSt → Nat → Prop) → Prop
def TDGs (C : Addr) (t : TGs) (ks : List Nat) (dg : DTGs) : Prop := ∀ {F M S : List Addr} {H : Hp} {σ : L2.St} {δ : DSt} {n : Nat} {vs : List V} {ds : List PyData} {R : DSt → Nat → Prop} {Q : L2.St → Hp → Prop}, Rel C F M S H σ δ n → ImAll (S ++ F) H vs ds → dg ds δ n R →
  (∀ S' H' σ' δ' n', Stp M S H S' H' → Rel C F M S' H' σ' δ' n' → Only ks σ σ' → R δ' n' → Q σ' H') → t vs σ H Q
def gsNil : DTGs := fun ds δ n R => ds = [] ∧ R δ n
def gsCons (g : DTG) (t : DTGs) : DTGs := fun ds δ n R => ∃ d r, ds = d :: r ∧ g (.d d) δ n fun δ' n' => t r δ' n' R
theorem tdgs_nil : TDGs C gNil [] gsNil := fun r im ⟨e, hd⟩ hq => by
  subst e; cases im; exact ⟨rfl, hq _ _ _ _ _ .refl r ⟨rfl, fun _ _ => rfl⟩ hd⟩
theorem tdgs_cons {g : TG} {t : TGs} {a b : List Nat} {dg : DTG} {dt : DTGs} (h1 : TDG C g a dg) (h2 : TDGs C t b dt) : TDGs C (gCons g t) (a ++ b) (gsCons dg dt) := fun r im ⟨d, rest, e, hd⟩ hq => by
  subst e
  cases im with
  | cons i t =>
    refine ⟨_, _, rfl, h1 r (x := .d d) i hd fun S1 H1 σ1 δ1 n1 g1 r1 o1 hk => h2 r1 (t.stp g1 r.mf) hk fun S2 H2 σ2 δ2 n2 g2 r2 o2 hk => hq _ _ _ _ _ (g1.trans g2) r2 (o1.trans o2) hk⟩
/-- a, b = a tuple -/
def gT (k : Nat) (t : DTGs) : DTG := fun x δ n R => ∃ ds, x = .d (.tuple ds) ∧ ds.length = k ∧ t ds δ n R
theorem tdg_tup {K : PySem.W.Frag} {k : Nat} {t : TGs} {ks : List Nat} {dt : DTGs} (h : TDGs C t ks dt) : TDG C (gTup K k t) ks (gT k dt) := fun r sh ⟨ds, e, hl, hd⟩ hq => by
  subst e
  have sh : Im _ _ _ (.tuple ds) := sh
  cases sh with
  | @tup a vs _ na ra im => exact ⟨a, vs, rfl, .inl ra, by rw [im.length]; exact hl, h r im hd hq⟩
/-- .. or a list -/
def gQ (k : Nat) (t : DTGs) : DTG := fun x δ n R => ∃ ds, (x = .d (.tuple ds) ∨ x = .d (.list ds)) ∧ ds.length = k ∧ t ds δ n R
theorem tdg_seq {K : PySem.W.Frag} {k : Nat} {t : TGs} {ks : List Nat} {dt : DTGs} (h : TDGs C t ks dt) : TDG C (gSeqN K k t) ks (gQ k dt) := fun r sh ⟨ds, e, hl, hd⟩ hq => by
  rcases e with e | e
  · subst e
    have sh : Im _ _ _ (.tuple ds) := sh
    cases sh with
    | @tup a vs _ na ra im => exact .inl ⟨a, vs, rfl, .inl ra, by rw [im.length]; exact hl, h r im hd hq⟩
  · subst e
    have sh : Im _ _ _ (.list ds) := sh
    cases sh with
    | @lst a vs _ na ra im => exact .inr ⟨a, vs, rfl, .inl ra, by rw [im.length]; exact hl, h r im hd hq⟩
def dAsg (de : DTE) (g : DTG) : DTS := fun D δ n => de δ n fun x δ' n' => g x δ' n' D.nx
theorem tds_asg {te : TE} {de : DTE} {g : TG} {ks : List Nat} {dg : DTG} (h1 : TD C te de) (h2 : TDG C g ks dg) : TDS C (tAsg te g) (dAsg de dg) := fun r hd hn _ _ _ => h1 r hd fun v x S1 H1 δ1 n1 g1 r1 s1 hk =>
  h2 r1 s1 hk fun S2 H2 σ2 δ2 n2 g2 r2 _ hk => hn _ _ _ _ _ (g1.trans g2) r2 hk
/-- a, b = x, y -/
def dPar2 (i j : Nat) (da : DTA) : DTS := fun D δ n => da δ n fun xs δ' n' => ∃ x y, xs = [x, y] ∧ D.nx ((δ'.set i (some (.v x))).set j (some (.v y))) n'
theorem tds_par2 {i j : Nat} {ta : TA} {da : DTA} (h : TDA C ta da) : TDS C (tPar2 i j ta) (dPar2 i j da) := fun r hd hn _ _ _ => h r hd fun vs xs S1 H1 δ1 n1 g1 r1 s1 ⟨x, y, e, hk⟩ => by
  subst e
  cases s1 with
  | cons h1 t => cases t with
    | cons h2 t => cases t; exact ⟨_, _, rfl, hn _ _ _ _ _ g1 ((r1.set h1).set h2) hk⟩
def dPar3 (i j l : Nat) (da : DTA) : DTS := fun D δ n => da δ n fun xs δ' n' => ∃ x y z, xs = [x, y, z] ∧ D.nx (((δ'.set i (some (.v x))).set j (some (.v y))).set l (some (.v z))) n'
theorem tds_par3 {i j l : Nat} {ta : TA} {da : DTA} (h : TDA C ta da) : TDS C (tPar3 i j l ta) (dPar3 i j l da) := fun r hd hn _ _ _ => h r hd fun vs xs S1 H1 δ1 n1 g1 r1 s1 ⟨x, y, z, e, hk⟩ => by
  subst e
  cases s1 with
  | cons h1 t => cases t with
    | cons h2 t => cases t with
      | cons h3 t => cases t; exact ⟨_, _, _, rfl, hn _ _ _ _ _ g1 (((r1.set h1).set h2).set h3) hk⟩
/-! ### walks -/
/-- the walk J goes through the items ds, whatever is made meanwhile, or changed within U -/
def ItOk (U0 : List Addr) (H : Hp) (J : It) (ds : List PyData) : Prop := ∀ (U : List Addr) (H' : Hp), (∀ a ∈ U, a ∈ U0 ∨ H a = none) → Nx U H H' → Al U H' → (∀ i, i < ds.length → J.go i H') ∧ (∀ i, ds.length ≤ i → J.stop i H') ∧
  ∀ i x H'', i < ds.length → J.yld i H' x H'' → Nx [] H' H'' ∧ ∃ d, ds[i]? = some d ∧ Im U H'' x d
abbrev DTI := DSt → Nat → (List PyData → DSt → Nat → Prop) → Prop
def TDI (C : Addr) (wi : TI) (di : DTI) : Prop := ∀ {F M S : List Addr} {H : Hp} {σ : L2.St} {δ : DSt} {n : Nat} {R : List PyData → DSt → Nat → Prop} {Q : It → Hp → Prop}, Rel C F M S H σ δ n → di δ n R →
  (∀ J ds S' H' δ' n', Stp M S H S' H' → Rel C F M S' H' σ δ' n' → ItOk (S' ++ F) H' J ds → R ds δ' n' → Q J H') → wi σ H Q
def dFor (di : DTI) (g : DTG) (b : DTS) : DTS := fun D δ n => di δ n fun ds δ1 n1 => ∃ P : Nat → DSt → Nat → Prop, P 0 δ1 n1 ∧
  (∀ i d δ n, ds[i]? = some d → P i δ n → g (.d d) δ n fun δ' n' => b { nx := P (i + 1), rt := D.rt, bk := D.nx, ct := P (i + 1) } δ' n') ∧ ∀ δ n, P ds.length δ n → D.nx δ n
theorem for_core {F M S1 : List Addr} {H1 : Hp} {σ : L2.St} {δ1 : DSt} {n1 : Nat} {J : It} {ds : List PyData} {g : TG} {ks : List Nat} {tb : TS} {dg : DTG} {db : DTS} {nx : L2.St → Hp → Prop} {rt : VK} {DD : DEnds} (r1 : Rel C F M S1 H1 σ δ1 n1) (ok : ItOk (S1 ++ F) H1 J ds) (hg : TDG C g ks dg) (hb : TDS C tb db)
    (P : Nat → DSt → Nat → Prop) (p0 : P 0 δ1 n1) (ps : ∀ i d δ n, ds[i]? = some d → P i δ n → dg (.d d) δ n fun δ' n' => db { nx := P (i + 1), rt := DD.rt, bk := DD.nx, ct := P (i + 1) } δ' n')
    (pe : ∀ S' H' σ' δ' n', Stp M S1 H1 S' H' → Rel C F M S' H' σ' δ' n' → P ds.length δ' n' → nx σ' H') (hn : ∀ S' H' σ' δ' n', Stp M S1 H1 S' H' → Rel C F M S' H' σ' δ' n' → DD.nx δ' n' → nx σ' H')
    (hr : ∀ v x S' H' n', Stp M S1 H1 S' H' → (∀ s ∈ M, Spr H' s n') → ShV C (S' ++ F) M H' v x → DD.rt x n' → rt v H') :
    ∃ W : Nat → Nat → L2.St → Hp → Prop, (∃ m, W 0 m σ H1) ∧ ∀ i m σ H, W i m σ H →
      (J.stop i H ∧ nx σ H) ∨ (J.go i H ∧ ∃ N : L2.St → Hp → Prop, (∀ σ' H', N σ' H' → ∃ m', m' < m ∧ W (i + 1) m' σ' H') ∧ ∀ x H', J.yld i H x H' → g x σ H' fun σ2 H2 => tb { nx := N, rt := rt, bk := nx, ct := N } σ2 H2) := by
  refine ⟨fun i m σ' H' => m = ds.length - i ∧ i ≤ ds.length ∧ ∃ S' δ' n', Stp M S1 H1 S' H' ∧ Rel C F M S' H' σ' δ' n' ∧ P i δ' n', ⟨ds.length, by simp, Nat.zero_le _, S1, δ1, n1, .refl, r1, p0⟩, ?_⟩
  rintro i m σ' H' ⟨rfl, hi, S', δ', n', g', r', p⟩
  have al' : Al (S' ++ (S1 ++ F)) H' := fun a ha => by
    rcases List.mem_append.mp ha with z | z
    · exact r'.al a (List.mem_append_left _ z)
    · exact g'.nx.th a (r1.al a z)
  obtain ⟨k1, k2, k3⟩ := ok (S' ++ (S1 ++ F)) H' g'.t1 (g'.t2 r1.mf) al'
  by_cases hlt : i < ds.length
  · refine .inr ⟨k1 i hlt, fun σ2 H2 => ∃ S2 δ2 n2, Stp M S1 H1 S2 H2 ∧ Rel C F M S2 H2 σ2 δ2 n2 ∧ P (i + 1) δ2 n2, fun σ2 H2 ⟨S2, δ2, n2, h1, h2, h3⟩ => ⟨ds.length - (i + 1), by omega, rfl, hlt, S2, δ2, n2, h1, h2, h3⟩, fun x H'' y => ?_⟩
    obtain ⟨gx, d, ed, im⟩ := k3 i x H'' hlt y
    refine hg (r'.nx0 gx) (x := .d d) (Im.sub t3 _ im) (ps i d δ' n' ed p) fun S2 H2 σ2 δ2 n2 g2 r2 _ hk => ?_
    have gg : Stp M S1 H1 S2 H2 := (g'.trans (.of0 gx)).trans g2
    exact hb (D := { nx := _, rt := rt, bk := nx, ct := _ }) r2 hk (fun S3 H3 σ3 δ3 n3 g3 r3 hk => ⟨S3, δ3, n3, gg.trans g3, r3, hk⟩) (fun v x S3 H3 n3 g3 => hr v x S3 H3 n3 (gg.trans g3)) (fun S3 H3 σ3 δ3 n3 g3 r3 hk => hn S3 H3 σ3 δ3 n3 (gg.trans g3) r3 hk) (fun S3 H3 σ3 δ3 n3 g3 r3 hk => ⟨S3, δ3, n3, gg.trans g3, r3, hk⟩)
  · have e : i = ds.length := by omega
    subst e
    exact .inl ⟨k2 _ (Nat.le_refl _), pe _ _ _ _ _ g' r' p⟩
theorem tds_for {wi : TI} {g : TG} {ks : List Nat} {tb : TS} {di : DTI} {dg : DTG} {db : DTS} (hi : TDI C wi di) (hg : TDG C g ks dg) (hb : TDS C tb db) : TDS C (tFor wi g tb) (dFor di dg db) := fun {F M S H σ δ n D DD} r hd hn hr _ _ =>
  hi r hd fun J ds S1 H1 δ1 n1 g1 r1 ok ⟨P, p0, ps, pe⟩ => for_core (DD := DD) r1 ok hg hb P p0 ps
    (fun S' H' σ' δ' n' g' r' p => hn _ _ _ _ _ (g1.trans g') r' (pe _ _ p)) (fun S' H' σ' δ' n' g' r' hk => hn _ _ _ _ _ (g1.trans g') r' hk) (fun v x S' H' n' g' => hr v x S' H' n' (g1.trans g'))
/-! ### comprehensions -/
def wipeD (δ : DSt) : List Nat → DSt
  | [] => δ
  | v :: vs => (wipeD δ vs).set v none
theorem wipeD_length (δ : DSt) : ∀ vs : List Nat, (wipeD δ vs).length = δ.length
  | [] => rfl
  | v :: vs => by unfold wipeD; rw [List.length_set, wipeD_length δ vs]
theorem wipeD_some {δ : DSt} {i : Nat} {o : DO} : ∀ {vs : List Nat}, (wipeD δ vs)[i]? = some (some o) → δ[i]? = some (some o) ∧ i ∉ vs
  | [], h => ⟨h, by simp⟩
  | v :: vs, h => by
    unfold wipeD at h
    rw [List.getElem?_set] at h
    by_cases e : v = i
    · rw [if_pos e] at h
      split at h <;> cases h
    · rw [if_neg e] at h
      obtain ⟨h1, h2⟩ := wipeD_some h
      exact ⟨h1, fun z => (List.mem_cons.mp z).elim (fun z => e z.symm) h2⟩
theorem wipe_ne {σ : L2.St} {i : Nat} : ∀ {vs : List Nat}, i ∉ vs → (wipe σ vs)[i]? = σ[i]?
  | [], _ => rfl
  | v :: vs, h => by
    unfold wipe
    rw [List.getElem?_set_ne (fun z => h (by rw [z]; exact List.mem_cons_self)), wipe_ne fun z => h (List.mem_cons_of_mem _ z)]
theorem wipe_in {σ : L2.St} {i : Nat} : ∀ {vs : List Nat}, i ∈ vs → i < σ.length → (wipe σ vs)[i]? = some none
  | v :: vs, h, hl => by
    unfold wipe
    rw [List.getElem?_set]
    by_cases e : v = i
    · rw [if_pos e, if_pos (by rw [wipe_length, e]; exact hl)]
    · rw [if_neg e]
      exact wipe_in ((List.mem_cons.mp h).elim (fun z => absurd z.symm e) id) hl
/-- a state whose slots vs are forgotten, whatever the machine's slots hold there -/
theorem Rel.wiped {F M S : List Addr} {H : Hp} {σ σ' : L2.St} {δ : DSt} {n : Nat} {vs : List Nat} (r : Rel C F M S H σ δ n) (hl : σ'.length = σ.length) (h : ∀ j, j ∉ vs → σ'[j]? = σ[j]?) : Rel C F M S H σ' (wipeD δ vs) n := by
  refine ⟨r.al, r.mf, r.dj, r.sp, by rw [wipeD_length, hl, r.ln], fun i o e => ?_, fun i j o o' a hij e1 e2 w1 w2 s1 s2 => ?_⟩
  · obtain ⟨e1, hn⟩ := wipeD_some e
    rw [h i hn]; exact r.sh i o e1
  · obtain ⟨e1, h1⟩ := wipeD_some e1
    obtain ⟨e2, h2⟩ := wipeD_some e2
    rw [h i h1] at s1
    rw [h j h2] at s2
    exact r.nd i j o o' a hij e1 e2 w1 w2 s1 s2
theorem wipe_only {σ σ2 : L2.St} {ks vs : List Nat} (h : Only ks (wipe σ vs) σ2) (hk : ∀ k ∈ ks, k ∈ vs) : wipe σ2 vs = wipe σ vs := by
  have hl : σ2.length = σ.length := h.1.trans (wipe_length _ _)
  refine List.ext_getElem? fun i => ?_
  by_cases hi : i ∈ vs
  · by_cases hlt : i < σ.length
    · rw [wipe_in hi hlt, wipe_in hi (by omega)]
    · rw [List.getElem?_eq_none (by rw [wipe_length]; omega), List.getElem?_eq_none (by rw [wipe_length]; omega)]
  · rw [wipe_ne hi, h.2 i (fun z => hi (hk i z))]
def dLc (di : DTI) (g : DTG) (dt : DTT) (de : DTE) (vs : List Nat) : DTF := fun δ n R => di δ n fun ds δ1 n1 => ∃ P : Nat → List PyData → DSt → Nat → Prop, P 0 [] (wipeD δ1 vs) n1 ∧
  (∀ i d acc δ n, ds[i]? = some d → P i acc δ n → acc.length < 1000000 ∧ g (.d d) δ n fun δ' n' => dt δ' n' fun b δ2 n2 => if b = true then de δ2 n2 fun x δ3 n3 => ∃ y, x = .d y ∧ P (i + 1) (acc ++ [y]) (wipeD δ3 vs) n3 else P (i + 1) acc (wipeD δ2 vs) n2) ∧
  ∀ acc δ n, P ds.length acc δ n → R (.l acc) (wipeD δ vs) n
theorem lc_core {F M S1 : List Addr} {H1 : Hp} {σ : L2.St} {δ1 : DSt} {n1 : Nat} {J : It} {ds : List PyData} {D : Addr} {g : TG} {ks vs : List Nat} {tt : TT} {te : TE} {dg : DTG} {dt : DTT} {de : DTE} {Qd : Hp → Prop} {R : DO → DSt → Nat → Prop} (r1 : Rel C F M S1 H1 σ δ1 n1) (ok : ItOk (S1 ++ F) H1 J ds) (nD : H1 D = none) (hg : TDG C g ks dg) (ht : TDT C tt dt) (he : TD C te de) (hk : ∀ k ∈ ks, k ∈ vs)
    (P : Nat → List PyData → DSt → Nat → Prop) (p0 : P 0 [] (wipeD δ1 vs) n1)
    (ps : ∀ i d acc δ n, ds[i]? = some d → P i acc δ n → acc.length < 1000000 ∧ dg (.d d) δ n fun δ' n' => dt δ' n' fun b δ2 n2 => if b = true then de δ2 n2 fun x δ3 n3 => ∃ y, x = .d y ∧ P (i + 1) (acc ++ [y]) (wipeD δ3 vs) n3 else P (i + 1) acc (wipeD δ2 vs) n2)
    (pe : ∀ acc δ n, P ds.length acc δ n → R (.l acc) (wipeD δ vs) n)
    (hq : ∀ p acc S' H' δ' n', Stp M S1 H1 S' H' → Rel C F M S' H' σ δ' n' → Rel C F M (p :: S') H' σ δ' n' → p ∉ S' → p ∉ F → NewO (p :: (S' ++ F)) H' p (.l acc) → R (.l acc) δ' n' → p = D → Qd H') :
    ∃ W : Nat → Nat → Hp → Prop, (∃ m, W 0 m (upd H1 D (.lst []))) ∧ ∀ i m H, W i m H →
      (J.stop i H ∧ Qd H) ∨ (J.go i H ∧ ∃ Nx : Hp → Prop, (∀ H', Nx H' → ∃ m', m' < m ∧ W (i + 1) m' H') ∧ ∀ x H', J.yld i H x H' → g x (wipe σ vs) H' fun σ2 H2 => wipe σ2 vs = wipe σ vs ∧ tt σ2 H2 fun b H3 =>
        if b = true then te σ2 H3 fun y H4 => ∃ acc, H4 D = some (.lst acc) ∧ acc.length < sizeLine ∧ Nx (upd H4 D (.lst (acc ++ [y]))) else Nx H3) := by
  have g0 : Nx [] H1 (upd H1 D (.lst [])) := .new nD
  have DF : D ∉ F := fun z => r1.al D (List.mem_append_right _ z) nD
  have DM : D ∉ M := fun z => DF (r1.mf D z)
  refine ⟨fun i m H' => m = ds.length - i ∧ i ≤ ds.length ∧ ∃ S' δ' n' acc vs', Nx (D :: (S1 ++ M)) H1 H' ∧ (∀ a ∈ S', a ∈ S1 ∨ H1 a = none) ∧ Rel C (D :: F) M S' H' (wipe σ vs) δ' n' ∧ H' D = some (.lst vs') ∧ ImAll (S' ++ D :: F) H' vs' acc ∧ P i acc δ' n', ?_, ?_⟩
  · exact ⟨ds.length, by simp, Nat.zero_le _, S1, wipeD δ1 vs, n1, [], [], g0.of0, fun _ h => .inl h, (r1.inF nD g0 (by rw [upd_same]; simp)).wiped (wipe_length _ _) (fun j hj => wipe_ne hj), upd_same, .nil, p0⟩
  · rintro i m H' ⟨rfl, hi, S', δ', n', acc, vs', g', nw, r', eD, im, p⟩
    have hMF : ∀ a ∈ S1 ++ M, a ∈ S1 ++ F := fun a ha => (List.mem_append.mp ha).elim (List.mem_append_left _) fun z => List.mem_append_right _ (r1.mf a z)
    have u1 : ∀ a ∈ S' ++ (S1 ++ D :: F), a ∈ S1 ++ F ∨ H1 a = none := fun a ha => by
      rcases List.mem_append.mp ha with z | z
      · exact (nw a z).imp (List.mem_append_left _) id
      · rcases List.mem_cons.mp (mem_sw.mp z) with e | z
        · exact .inr (by rw [e]; exact nD)
        · exact .inl z
    have u2 : Nx (S' ++ (S1 ++ D :: F)) H1 H' := g'.mono fun a ha => List.mem_append_right _ (mem_sw.mpr ((List.mem_cons.mp ha).elim (fun e => by rw [e]; exact List.mem_cons_self) fun z => List.mem_cons_of_mem _ (hMF a z)))
    have u3 : Al (S' ++ (S1 ++ D :: F)) H' := fun a ha => by
      rcases List.mem_append.mp ha with z | z
      · exact r'.al a (List.mem_append_left _ z)
      · rcases List.mem_append.mp z with z | z
        · exact g'.th a (r1.al a (List.mem_append_left _ z))
        · exact r'.al a (List.mem_append_right _ z)
    have u4 : ∀ a ∈ S' ++ D :: F, a ∈ S' ++ (S1 ++ D :: F) := fun a ha => (List.mem_append.mp ha).elim (List.mem_append_left _) fun z => List.mem_append_right _ (List.mem_append_right _ z)
    obtain ⟨k1, k2, k3⟩ := ok (S' ++ (S1 ++ D :: F)) H' u1 u2 u3
    by_cases hlt : i < ds.length
    · refine .inr ⟨k1 i hlt, fun H2 => ∃ S2 δ2 n2 acc2 vs2, Nx (D :: (S1 ++ M)) H1 H2 ∧ (∀ a ∈ S2, a ∈ S1 ∨ H1 a = none) ∧ Rel C (D :: F) M S2 H2 (wipe σ vs) δ2 n2 ∧ H2 D = some (.lst vs2) ∧ ImAll (S2 ++ D :: F) H2 vs2 acc2 ∧ P (i + 1) acc2 δ2 n2, fun H2 ⟨S2, δ2, n2, a2, v2, h⟩ => ⟨ds.length - (i + 1), by omega, rfl, hlt, S2, δ2, n2, a2, v2, h⟩, fun x H'' y => ?_⟩
      obtain ⟨gx, d, ed, ix⟩ := k3 i x H'' hlt y
      obtain ⟨hal, hp⟩ := ps i d acc δ' n' ed p
      have later : ∀ {S2 : List Addr} {H2 : Hp}, Stp M S' H'' S2 H2 → Nx (D :: (S1 ++ M)) H1 H2 ∧ (∀ a ∈ S2, a ∈ S1 ∨ H1 a = none) ∧ H2 D = some (.lst vs') ∧ ImAll (S2 ++ D :: F) H2 vs' acc := fun {S2 H2} g2 => by
        have gt : Stp M S' H' S2 H2 := (Stp.of0 gx).trans g2
        refine ⟨⟨fun c o hc e => ?_, fun c h => gt.nx.th c (g'.th c h)⟩, fun a ha => ?_, ?_, im.stp gt r'.mf⟩
        · refine gt.nx.kp c o (fun z => ?_) (g'.kp c o hc e)
          rcases List.mem_append.mp z with z | z
          · rcases nw c z with z | z
            · exact hc (List.mem_cons_of_mem _ (List.mem_append_left _ z))
            · rw [z] at e; cases e
          · exact hc (List.mem_cons_of_mem _ (List.mem_append_right _ z))
        · rcases gt.nw a ha with z | z
          · exact nw a z
          · exact .inr (g'.fresh z)
        · refine gt.nx.kp D _ (fun z => ?_) eD
          rcases List.mem_append.mp z with z | z
          · exact r'.dj D z List.mem_cons_self
          · exact DM z
      refine hg (r'.nx0 gx) (x := .d d) (Im.sub (fun a ha => .inl (u4 a ha)) _ ix) hp fun S2 H2 σ2 δ2 n2 g2 r2 o2 hp2 => ⟨wipe_only o2 hk, ?_⟩
      have ew := wipe_only o2 hk
      have wl : (wipe σ vs).length = σ2.length := by rw [wipe_length, ← wipe_length σ2 vs, ew, wipe_length]
      have back : ∀ j, j ∉ vs → (wipe σ vs)[j]? = σ2[j]? := fun j hj => by rw [← ew, wipe_ne hj]
      refine ht r2 hp2 fun b S3 H3 δ3 n3 g3 r3 hp3 => ?_
      cases b with
      | true =>
        rw [if_pos rfl] at hp3 ⊢
        refine he r3 hp3 fun v z S4 H4 δ4 n4 g4 r4 s4 ⟨yd, ez, hp4⟩ => ?_
        subst ez
        obtain ⟨a1, a2, a3, a4⟩ := later ((g2.trans g3).trans g4)
        have gP : Nx [D] H4 (upd H4 D (.lst (vs' ++ [v]))) := .put (by simp)
        have gP2 : Nx (S4 ++ D :: F) H4 (upd H4 D (.lst (vs' ++ [v]))) := .put (by simp)
        have lv := im.length
        refine ⟨vs', a3, Nat.lt_of_lt_of_le (show vs'.length < 1000000 by omega) (by decide), S4, wipeD δ4 vs, n4, acc ++ [yd], vs' ++ [v], a1.trans (gP.mono (by simp)), a2, ((r4.stp gP (by simp) fun s hs => (r4.sp s hs).nx gP (fun z => DM (by rw [← List.mem_singleton.mp z]; exact hs))).wiped wl back), upd_same, (a4.nx gP2).snoc (Im.nx gP2 s4), hp4⟩
      | false =>
        rw [if_neg (by decide)] at hp3 ⊢
        obtain ⟨a1, a2, a3, a4⟩ := later (g2.trans g3)
        exact ⟨S3, wipeD δ3 vs, n3, acc, vs', a1, a2, r3.wiped wl back, a3, a4, hp3⟩
    · have e : i = ds.length := by omega
      subst e
      have DS : D ∉ S' := fun z => r'.dj D z List.mem_cons_self
      have gS : Stp M S1 H1 S' H' := ⟨⟨fun c o hc e => g'.kp c o (fun z => (List.mem_cons.mp z).elim (ne_of_none e nD) hc) e, g'.th⟩, nw⟩
      have rw_ := r'.wiped (σ' := σ) (vs := vs) (by rw [wipe_length]) (fun j hj => (wipe_ne hj).symm)
      refine .inl ⟨k2 _ (Nat.le_refl _), hq D acc S' H' _ n' gS (rw_.outF r1.mf) (rw_.inS r1.mf DF) DS DF ⟨vs', eD, ImAll.sub (fun a ha => .inl (mem_sw.mpr ha)) _ im⟩ (pe acc δ' n' p) rfl⟩
theorem tdf_lc {wi : TI} {g : TG} {ks vs : List Nat} {tt : TT} {te : TE} {di : DTI} {dg : DTG} {dt : DTT} {de : DTE} (hi : TDI C wi di) (hg : TDG C g ks dg) (ht : TDT C tt dt) (he : TD C te de) (hk : ∀ k ∈ ks, k ∈ vs) : TDF C (tLc wi g tt te vs) (dLc di dg dt de vs) := fun {F M S H σ δ n R Q} r hd hq =>
  hi r hd fun J ds S1 H1 δ1 n1 g1 r1 ok ⟨P, p0, ps, pe⟩ D nD => lc_core (R := R) r1 ok nD hg ht he hk P p0 ps pe fun p acc S' H' δ' n' gS ra rb h1 h2 no hR e => by
    subst e
    exact hq p (.l acc) S' H' δ' n' (g1.trans gS) ra rb (g1.nx.fresh nD) h1 h2 no hR
end
end RG

/-! the data layer: operators, built-ins, subscripts, changes of one's own -/
namespace RG
open PySem PySem.Spec PyProof.Rows L2
section
variable {C : Addr}
theorem td_ty {t : String} : TD C (tC (.ty t)) (dC (.ty t)) := fun r h hq => hq _ (.ty t) _ _ _ _ .refl r rfl h
/-! ### operators of numbers and texts -/
def fII (g : Int → Int → Int) : F2 := fun a b k => ∃ i j, a = .d (.int i) ∧ b = .d (.int j) ∧ k (.d (.int (g i j)))
theorem ok_II {g : Int → Int → Int} : BinOk C (rI0 fun i j => .int (g i j)) (fII g) := fun {U M H v w a b k Q} h1 h2 ⟨i, j, ea, eb, hk⟩ hq => by
  subst ea eb; cases h1; cases h2
  exact ⟨i, j, rfl, rfl, hq _ _ (sh_int _) hk⟩
def fIB (g : Int → Int → Bool) : F2 := fun a b k => ∃ i j, a = .d (.int i) ∧ b = .d (.int j) ∧ k (.d (.bool (g i j)))
theorem ok_IB {g : Int → Int → Bool} : BinOk C (rI0 fun i j => .bl (g i j)) (fIB g) := fun {U M H v w a b k Q} h1 h2 ⟨i, j, ea, eb, hk⟩ hq => by
  subst ea eb; cases h1; cases h2
  exact ⟨i, j, rfl, rfl, hq _ _ (sh_bl _) hk⟩
def fIIc (P : Int → Int → Prop) (g : Int → Int → Int) : F2 := fun a b k => ∃ i j, a = .d (.int i) ∧ b = .d (.int j) ∧ P i j ∧ k (.d (.int (g i j)))
theorem ok_IIc {P : Int → Int → Prop} {g : Int → Int → Int} : BinOk C (rI P fun i j => .int (g i j)) (fIIc P g) := fun {U M H v w a b k Q} h1 h2 ⟨i, j, ea, eb, hp, hk⟩ hq => by
  subst ea eb; cases h1; cases h2
  exact ⟨i, j, rfl, rfl, hp, hq _ _ (sh_int _) hk⟩
def fSS : F2 := fun a b k => ∃ x y, a = .d (.str x) ∧ b = .d (.str y) ∧ x.length + y.length ≤ sizeLine ∧ k (.d (.str (x ++ y)))
theorem ok_SS : BinOk C (fun x y H Q => ∃ i j, x = .str i ∧ y = .str j ∧ i.length + j.length ≤ sizeLine ∧ Q (.str (i ++ j)) H) fSS := fun {U M H v w a b k Q} h1 h2 ⟨x, y, ea, eb, hl, hk⟩ hq => by
  subst ea eb; cases h1; cases h2
  exact ⟨x, y, rfl, rfl, hl, hq _ _ (sh_str _) hk⟩
def fSB (g : Str → Str → Bool) : F2 := fun a b k => ∃ x y, a = .d (.str x) ∧ b = .d (.str y) ∧ k (.d (.bool (g x y)))
theorem ok_SB {g : Str → Str → Bool} : BinOk C (fun x y H Q => ∃ i j, x = .str i ∧ y = .str j ∧ Q (.bl (g i j)) H) (fSB g) := fun {U M H v w a b k Q} h1 h2 ⟨x, y, ea, eb, hk⟩ hq => by
  subst ea eb; cases h1; cases h2
  exact ⟨x, y, rfl, rfl, hq _ _ (sh_bl _) hk⟩
def fU (g : Int → Int) : F1 := fun a k => ∃ i, a = .d (.int i) ∧ k (.d (.int (g i)))
theorem ok_U {g : Int → Int} : UnOk C (rU fun i => .int (g i)) (fU g) := fun {U M H v a k Q} h1 ⟨i, ea, hk⟩ hq => by
  subst ea; cases h1
  exact ⟨i, rfl, hq _ _ (sh_int _) hk⟩
/-! ### equality of flat data -/
def eqF : PyData → PyData → Option Bool
  | .int i, .int j => some (decide (i = j))
  | .str x, .str y => some (decide (x = y))
  | .bool x, .bool y => some (decide (x = y))
  | .none, .int _ => some false
  | .int _, .none => some false
  | .none, .bool _ => some false
  | .bool _, .none => some false
  | .none, .str _ => some false
  | .str _, .none => some false
  | .int _, .str _ => some false
  | .str _, .int _ => some false
  | .bool _, .str _ => some false
  | .str _, .bool _ => some false
  | .none, .none => some true
  | _, _ => none
theorem eqF_ok {U : List Addr} {H : Hp} {v w : V} {x y : PyData} {r : Bool} (h1 : ImR U H v x) (h2 : ImR U H w y) (e : eqF x y = some r) : scal v w = true ∧ decide (v = w) = r := by
  cases x <;> cases y <;> first | (cases e; done) | (cases h1; cases h2; cases e; refine ⟨rfl, ?_⟩; first | rfl | (simp; done))
def fEq : F2 := fun a b k => ∃ x y r, a = .d x ∧ b = .d y ∧ eqF x y = some r ∧ k (.d (.bool r))
theorem ok_eq : BinOk C rEq fEq := fun {U M H v w a b k Q} h1 h2 ⟨x, y, r, ea, eb, e, hk⟩ hq => by
  subst ea eb
  obtain ⟨e1, e2⟩ := eqF_ok h1 h2 e
  exact ⟨e1, by rw [e2]; exact hq _ _ (sh_bl _) hk⟩
def fNe : F2 := fun a b k => ∃ x y r, a = .d x ∧ b = .d y ∧ eqF x y = some r ∧ k (.d (.bool !r))
theorem ok_ne : BinOk C rNe fNe := fun {U M H v w a b k Q} h1 h2 ⟨x, y, r, ea, eb, e, hk⟩ hq => by
  subst ea eb
  obtain ⟨e1, e2⟩ := eqF_ok h1 h2 e
  exact ⟨e1, by rw [e2]; exact hq _ _ (sh_bl _) hk⟩
def isNoneD : PyData → Bool
  | .none => true
  | _ => false
theorem isNone_ok {U : List Addr} {H : Hp} {v : V} {x : PyData} (h : ImR U H v x) : decide (v = .non) = isNoneD x := by
  cases x with
  | none => cases h; rfl
  | bool b => cases h; simp [isNoneD]
  | int i => cases h; simp [isNoneD]
  | str s => cases h; simp [isNoneD]
  | list xs => obtain ⟨a, vs, rfl, _⟩ := h; simp [isNoneD]
  | tuple xs => obtain ⟨a, vs, rfl, _⟩ := h; simp [isNoneD]
  | dict xs => obtain ⟨a, vs, rfl, _⟩ := h; simp [isNoneD]
def fIsN (neg : Bool) : F2 := fun a b k => ∃ x, a = .d x ∧ b = .d .none ∧ k (.d (.bool (isNoneD x != neg)))
theorem ok_isN : BinOk C (fun x y H Q => y = .non ∧ Q (.bl (decide (x = .non))) H) (fIsN false) := fun {U M H v w a b k Q} h1 h2 ⟨x, ea, eb, hk⟩ hq => by
  subst ea eb; cases h2
  refine ⟨rfl, ?_⟩
  rw [isNone_ok h1]
  rw [Bool.bne_false] at hk
  exact hq _ _ (sh_bl _) hk
theorem ok_notN : BinOk C (fun x y H Q => y = .non ∧ Q (.bl (!decide (x = .non))) H) (fIsN true) := fun {U M H v w a b k Q} h1 h2 ⟨x, ea, eb, hk⟩ hq => by
  subst ea eb; cases h2
  refine ⟨rfl, ?_⟩
  rw [isNone_ok h1]
  rw [Bool.bne_true] at hk
  exact hq _ _ (sh_bl _) hk
def fIsB (neg : Bool) : F2 := fun a b k => ∃ x y, a = .d (.bool x) ∧ b = .d (.bool y) ∧ k (.d (.bool (decide (x = y) != neg)))
theorem ok_isB : BinOk C rIsB (fIsB false) := fun {U M H v w a b k Q} h1 h2 ⟨x, y, ea, eb, hk⟩ hq => by
  subst ea eb; cases h1; cases h2
  rw [Bool.bne_false] at hk
  exact ⟨x, y, rfl, rfl, hq _ _ (sh_bl _) hk⟩
theorem ok_notB : BinOk C rNotB (fIsB true) := fun {U M H v w a b k Q} h1 h2 ⟨x, y, ea, eb, hk⟩ hq => by
  subst ea eb; cases h1; cases h2
  rw [Bool.bne_true] at hk
  exact ⟨x, y, rfl, rfl, hq _ _ (sh_bl _) hk⟩
/-! ### in -/
def flatD : PyData → Bool
  | .none => true
  | .bool _ => true
  | .int _ => true
  | .str _ => true
  | _ => false
def vD : PyData → V
  | .none => .non
  | .bool b => .bl b
  | .int i => .int i
  | .str x => .str x
  | _ => .non
theorem flat_v {U : List Addr} {H : Hp} {v : V} {x : PyData} (h : ImR U H v x) (f : flatD x = true) : v = vD x ∧ flatV v = true := by
  cases x <;> first | (cases f; done) | (cases h; exact ⟨rfl, rfl⟩)
theorem flat_vs {U : List Addr} {H : Hp} : ∀ {vs : List V} {ds : List PyData}, ImAll U H vs ds → ds.all flatD = true → vs = ds.map vD ∧ vs.all flatV = true
  | _, _, .nil, _ => ⟨rfl, rfl⟩
  | _, _, .cons a t, f => by
    rw [List.all_cons, Bool.and_eq_true] at f
    obtain ⟨e1, e2⟩ := flat_v (ImR.of a) f.1
    obtain ⟨e3, e4⟩ := flat_vs t f.2
    exact ⟨by rw [List.map_cons, ← e1, ← e3], by rw [List.all_cons, e2, e4]; rfl⟩
def inD (x : PyData) (ds : List PyData) : Bool := inV (vD x) (ds.map vD)
theorem inD_int (i : Int) : ∀ ns : List Int, inD (.int i) (ns.map .int) = decide (i ∈ ns)
  | [] => by simp [inD, inV]
  | n :: r => by
    have ih := inD_int i r
    unfold inD inV at ih ⊢
    rw [List.map_cons, List.map_cons, List.any_cons, ih]
    show (_ || _) = decide (i ∈ n :: r)
    by_cases e : n = i
    · subst e; simp [vD, eqV]
    · have : (eqV (vD (.int n)) (vD (.int i))) = false := by simp [vD, eqV, e]
      rw [this, Bool.false_or]
      have : ¬ i = n := fun z => e z.symm
      simp [this]
theorem inD_str (x : Str) (xs : List Str) : inD (.str x) (xs.map .str) = decide (x ∈ xs) := by
  have h := inV_str x xs
  unfold inD
  rw [List.map_map]
  exact h
theorem flat_ints (ns : List Int) : (ns.map PyData.int).all flatD = true := by
  rw [List.all_eq_true]; intro x hx; obtain ⟨y, _, rfl⟩ := List.mem_map.mp hx; rfl
theorem flat_strD (ns : List Str) : (ns.map PyData.str).all flatD = true := by
  rw [List.all_eq_true]; intro x hx; obtain ⟨y, _, rfl⟩ := List.mem_map.mp hx; rfl
def fIn (neg : Bool) : F2 := fun a b k => ∃ x ds, a = .d x ∧ (b = .d (.list ds) ∨ b = .d (.tuple ds)) ∧ flatD x = true ∧ ds.all flatD = true ∧ k (.d (.bool (if neg then !inD x ds else inD x ds)))
theorem ok_in {K : PySem.W.Frag} {neg : Bool} : BinOk C (rIn K neg) (fIn neg) := fun {U M H v w a b k Q} h1 h2 ⟨x, ds, ea, eb, f1, f2, hk⟩ hq => by
  subst ea
  obtain ⟨e1, g1⟩ := flat_v h1 f1
  have key : ∀ {p : Addr} {vs : List V}, ImAll U H vs ds → (SqL K H p vs ∨ SqT K H p vs) → w = .ref p → rIn K neg v w H Q := fun {p vs} im sq e => by
    obtain ⟨e3, g3⟩ := flat_vs im f2
    refine ⟨p, vs, e, sq, g1, g3, ?_⟩
    have ee : inV v vs = inD x ds := by rw [e1, e3]; rfl
    rw [ee]
    exact hq _ _ (sh_bl _) hk
  rcases eb with e | e
  · subst e; obtain ⟨p, vs, rfl, rd, im⟩ := h2; exact key im (.inl (.inl rd)) rfl
  · subst e; obtain ⟨p, vs, rfl, rd, im⟩ := h2; exact key im (.inr (.inl rd)) rfl
/-- a dict's value at a key -/
def lookK : List (PyData × PyData) → Key → Option PyData
  | [], _ => none
  | (.int i, v) :: r, k => if k = .inl i then some v else lookK r k
  | (.str x, v) :: r, k => if k = .inr x then some v else lookK r k
  | (.none, _) :: r, k => lookK r k
  | (.bool _, _) :: r, k => lookK r k
  | (.list _, _) :: r, k => lookK r k
  | (.tuple _, _) :: r, k => lookK r k
  | (.dict _, _) :: r, k => lookK r k
theorem lookK_im {U : List Addr} {H : Hp} {k : Key} : ∀ {ks : List (Key × V)} {ds : List (PyData × PyData)}, ImKv U H ks ds → (valV ks k = none ∧ lookK ds k = none) ∨ ∃ v d, valV ks k = some v ∧ lookK ds k = some d ∧ Im U H v d
  | _, _, .nil => .inl ⟨valV_nil, rfl⟩
  | _, _, .cons (k := k1) (v := v) (d := d) a t => by
    have ih := lookK_im (k := k) t
    by_cases e : k1 = k
    · subst e
      refine .inr ⟨v, d, valV_pos rfl, ?_, a⟩
      cases k1 <;> exact if_pos rfl
    · rw [valV_neg (p := (k1, v)) e]
      have : ∀ r, lookK ((kD k1, d) :: r) k = lookK r k := fun r => by
        cases k1 <;> exact if_neg (fun z => e z.symm)
      rw [this]; exact ih
/-- a key as data -/
def keyD : PyData → Option Key
  | .int i => some (.inl i)
  | .str x => some (.inr x)
  | _ => none
theorem keyD_ok {U : List Addr} {H : Hp} {v : V} {x : PyData} {k : Key} (h : ImR U H v x) (e : keyD x = some k) : v = kV k := by
  cases x <;> first | (cases e; done) | (cases h; cases e; rfl)
def fDin (neg : Bool) : F2 := fun a b k => ∃ x ds key, a = .d x ∧ b = .d (.dict ds) ∧ keyD x = some key ∧ k (.d (.bool ((lookK ds key).isSome != neg)))
theorem dget_im {U : List Addr} {H : Hp} {w : V} {ds : List (PyData × PyData)} (key : Key) (h : ImR U H w (.dict ds)) : ∃ a, w = .ref a ∧ ((DGet H a (kV key) none ∧ lookK ds key = none) ∨ ∃ v d, DGet H a (kV key) (some v) ∧ lookK ds key = some d ∧ Im U H v d) := by
  obtain ⟨a, ks, rfl, rd, nd, im⟩ := h
  refine ⟨a, rfl, ?_⟩
  rcases lookK_im (k := key) im with ⟨e1, e2⟩ | ⟨v, d, e1, e2, i⟩
  · exact .inl ⟨.inl ⟨ks, key, rd, rfl, e1.symm⟩, e2⟩
  · exact .inr ⟨v, d, .inl ⟨ks, key, rd, rfl, e1.symm⟩, e2, i⟩
theorem ok_din : BinOk C rDin (fDin false) := fun {U M H v w a b k Q} h1 h2 ⟨x, ds, key, ea, eb, ek, hk⟩ hq => by
  subst ea eb
  obtain rfl := keyD_ok h1 ek
  obtain ⟨p, rfl, h⟩ := dget_im key h2
  rw [Bool.bne_false] at hk
  rcases h with ⟨g, e⟩ | ⟨u, d, g, e, _⟩
  · rw [e] at hk; exact ⟨p, _, rfl, g, hq _ _ (sh_bl _) hk⟩
  · rw [e] at hk; exact ⟨p, _, rfl, g, hq _ _ (sh_bl _) hk⟩
theorem ok_dnotin : BinOk C rDnotin (fDin true) := fun {U M H v w a b k Q} h1 h2 ⟨x, ds, key, ea, eb, ek, hk⟩ hq => by
  subst ea eb
  obtain rfl := keyD_ok h1 ek
  obtain ⟨p, rfl, h⟩ := dget_im key h2
  rw [Bool.bne_true] at hk
  rcases h with ⟨g, e⟩ | ⟨u, d, g, e, _⟩
  · rw [e] at hk; exact ⟨p, _, rfl, g, hq _ _ (sh_bl _) hk⟩
  · rw [e] at hk; exact ⟨p, _, rfl, g, hq _ _ (sh_bl _) hk⟩
/-- d[k] -/
def dGet (da db : DTB) : DTE := fun δ n R => da δ n fun ra δ1 n1 => db δ1 n1 fun rb δ2 n2 => ∃ ds x key d, ra.at δ2 = some (.d (.dict ds)) ∧ rb.at δ2 = some (.d x) ∧ keyD x = some key ∧ lookK ds key = some d ∧ R (.d d) δ2 n2
theorem td_dget {ta tb : TE} {da db : DTB} (ha : TB C ta da) (hb : TB C tb db) : TD C (tDGet ta tb) (dGet da db) := fun r h hq =>
  ha r h fun v x S1 H1 δ1 n1 g1 r1 s1 h => hb r1 h fun w y S2 H2 δ2 n2 g2 r2 s2 ⟨ds, kx, key, d, ea, eb, ek, el, h⟩ => by
    have q1 := (RVok.stp g2 r1.mf s1).use r2 ea
    have q2 := s2.use r2 eb
    obtain rfl := keyD_ok q2 ek
    obtain ⟨p, rfl, h3⟩ := dget_im key q1
    rcases h3 with ⟨_, e⟩ | ⟨u, d', g, e, i⟩
    · rw [el] at e; cases e
    · rw [el] at e; cases e
      exact ⟨p, u, rfl, g, hq _ (.d d) _ _ _ _ (g1.trans g2) r2 i h⟩
/-! ### subscripts -/
def fIx : F2 := fun a b k => ∃ ds i d, (a = .d (.list ds) ∨ a = .d (.tuple ds)) ∧ b = .d (.int i) ∧ atI ds i = some d ∧ k (.d d)
theorem atI_im {U : List Addr} {H : Hp} {vs : List V} {ds : List PyData} {i : Int} {d : PyData} (im : ImAll U H vs ds) (e : atI ds i = some d) : ∃ v, atI vs i = some v ∧ Im U H v d := by
  unfold atI at e ⊢
  rw [im.length]
  cases h : ixN ds.length i with
  | none => rw [h] at e; cases e
  | some j =>
    rw [h] at e
    obtain ⟨v, h1, h2⟩ := im.get (show ds[j]? = some d from e)
    exact ⟨v, h1, h2⟩
def fIxL : F2 := fun a b k => ∃ ds i d, a = .d (.list ds) ∧ b = .d (.int i) ∧ atI ds i = some d ∧ k (.d d)
theorem ok_ixL {K : PySem.W.Frag} : BinOk C (rIxL K) fIxL := fun {U M H v w a b k Q} h1 h2 ⟨ds, i, d, ea, eb, e, hk⟩ hq => by
  subst ea eb; cases h2
  obtain ⟨p, vs, rfl, rd, im⟩ := h1
  obtain ⟨u, e1, i1⟩ := atI_im im e
  exact ⟨p, vs, i, u, rfl, rfl, .inl rd, e1, hq _ (.d d) i1 hk⟩
def fIxT : F2 := fun a b k => ∃ ds i d, a = .d (.tuple ds) ∧ b = .d (.int i) ∧ atI ds i = some d ∧ k (.d d)
theorem ok_ixT {K : PySem.W.Frag} : BinOk C (rIxT K) fIxT := fun {U M H v w a b k Q} h1 h2 ⟨ds, i, d, ea, eb, e, hk⟩ hq => by
  subst ea eb; cases h2
  obtain ⟨p, vs, rfl, rd, im⟩ := h1
  obtain ⟨u, e1, i1⟩ := atI_im im e
  exact ⟨p, vs, i, u, rfl, rfl, .inl rd, e1, hq _ (.d d) i1 hk⟩
theorem ok_ix {K : PySem.W.Frag} : BinOk C (rIx K) fIx := fun {U M H v w a b k Q} h1 h2 ⟨ds, i, d, ea, eb, e, hk⟩ hq => by
  rcases ea with ea | ea
  · exact .inl (ok_ixL h1 h2 ⟨ds, i, d, ea, eb, e, hk⟩ hq)
  · exact .inr (.inl (ok_ixT h1 h2 ⟨ds, i, d, ea, eb, e, hk⟩ hq))
/-! ### built-ins -/
def lenD : PyData → Option Nat
  | .str x => some x.length
  | .list xs => some xs.length
  | .tuple xs => some xs.length
  | .dict ds => some ds.length
  | _ => none
def fLen : FA := fun as k => ∃ x m, as = [.d x] ∧ lenD x = some m ∧ (∀ s, x = .str s → s.length ≤ sizeLine) ∧ k (.d (.int m))
theorem shrs1 {U M : List Addr} {H : Hp} {vs : List V} {a : DV} (h : ShRs C U M H vs [a]) : ∃ v, vs = [v] ∧ ShR C U M H v a := by
  cases h with
  | cons h t => cases t; exact ⟨_, rfl, h⟩
theorem shrs2 {U M : List Addr} {H : Hp} {vs : List V} {a b : DV} (h : ShRs C U M H vs [a, b]) : ∃ v w, vs = [v, w] ∧ ShR C U M H v a ∧ ShR C U M H w b := by
  cases h with
  | cons h t => cases t with
    | cons h2 t => cases t; exact ⟨_, _, rfl, h, h2⟩
theorem len_im {K : PySem.W.Frag} {U : List Addr} {H : Hp} {v : V} {x : PyData} {m : Nat} (h : ImR U H v x) (e : lenD x = some m) (hs : ∀ s, x = .str s → s.length ≤ sizeLine) : LenU K v H m := by
  cases x with
  | none => cases e
  | bool b => cases e
  | int i => cases e
  | str s => cases e; cases h; exact Or.inl ⟨hs s rfl, rfl⟩
  | list xs =>
    cases e
    obtain ⟨p, ws, hv, rd, im⟩ := h
    subst hv
    exact Or.inl (Or.inl ⟨ws, .inl rd, im.length.symm⟩)
  | tuple xs =>
    cases e
    obtain ⟨p, ws, hv, rd, im⟩ := h
    subst hv
    exact Or.inl (Or.inr ⟨ws, .inl rd, im.length.symm⟩)
  | dict ds =>
    cases e
    obtain ⟨p, ks, hv, rd, nd, im⟩ := h
    subst hv
    exact Or.inr ⟨p, ks, rfl, rd, im.length.symm⟩
theorem ok_len {K : PySem.W.Frag} : CallOk C (rLenU K) fLen := fun {U M H vs as k Q} al h ⟨x, m, e, el, hs, hk⟩ hq => by
  subst e
  obtain ⟨v, rfl, h1⟩ := shrs1 h
  exact ⟨v, m, rfl, len_im h1 el hs, hq _ _ _ (.refl _ _) (sh_int _) hk⟩
/-- len(ring), by its own __len__ -/
def fLenR : FA := fun as k => ∃ h A, as = [.ring h A] ∧ A.length ≤ 40 ∧ k (.d (.int A.length))
end
end RG

/-! the data layer: what is walked; kinds; all, any; sorted; lists and dicts made of others; changes of one's own; rings -/
namespace RG
open PySem PySem.Spec PyProof.Rows L2
section
variable {C : Addr}
theorem ImR.im0 {U : List Addr} {H : Hp} {v : V} {x : PyData} (h : ImR U H v x) : Im [] H v x := by
  cases x with
  | none => cases h; exact .non
  | bool b => cases h; exact .bl b
  | int i => cases h; exact .int i
  | str s => cases h; exact .str s
  | list xs => obtain ⟨a, vs, rfl, rd, im⟩ := h; exact .lst (by simp) rd (ImAll.sub ap_nil _ im)
  | tuple xs => obtain ⟨a, vs, rfl, rd, im⟩ := h; exact .tup (by simp) rd (ImAll.sub ap_nil _ im)
  | dict xs => obtain ⟨a, vs, rfl, rd, nd, im⟩ := h; exact .dct (by simp) rd nd (ImKv.sub ap_nil _ im)
/-! ### walks -/
theorem itok_seq {K : PySem.W.Frag} {U0 : List Addr} {H : Hp} {a : Addr} {vs : List V} {ds : List PyData} (na : a ∉ U0) (im : ImAll U0 H vs ds) :
    (Rd H a (.lst vs) → ItOk U0 H (Itl K a) ds) ∧ (Rd H a (.tup vs) → ItOk U0 H (Itt K a) ds) := by
  have hl := im.length
  have key : ∀ {U : List Addr} {H' : Hp}, (∀ b ∈ U, b ∈ U0 ∨ H b = none) → Nx U H H' → ∀ {i : Nat} {x : V}, vs[i]? = some x → ∃ d, ds[i]? = some d ∧ Im U H' x d := fun {U H'} hU g {i x} e => (im.to hU g).at_ e
  have nin : ∀ {U : List Addr}, (∀ b ∈ U, b ∈ U0 ∨ H b = none) → H a ≠ none → a ∉ U := fun hU h z => (hU a z).elim na h
  constructor
  · intro rd U H' hU g al
    have rd' : SqL K H' a vs := .inl (g.rx a _ (nin hU (rd_some rd)) .l rd)
    refine ⟨fun i hi => ⟨vs, vs[i]'(by omega), rd', List.getElem?_eq_getElem (by omega)⟩, fun i hi => ⟨vs, rd', by omega⟩, fun i x H'' hi ⟨e, y⟩ => ?_⟩
    subst e
    exact ⟨.refl _ _, key hU g (y vs rd')⟩
  · intro rd U H' hU g al
    have rd' : SqT K H' a vs := .inl (g.rx a _ (nin hU (rd_some rd)) .t rd)
    refine ⟨fun i hi => ⟨vs, vs[i]'(by omega), rd', List.getElem?_eq_getElem (by omega)⟩, fun i hi => ⟨vs, rd', by omega⟩, fun i x H'' hi ⟨e, y⟩ => ?_⟩
    subst e
    exact ⟨.refl _ _, key hU g (y vs rd')⟩
def iL (de : DTE) : DTI := fun δ n R => de δ n fun x δ' n' => ∃ ds, x = .d (.list ds) ∧ R ds δ' n'
theorem tdi_list {K : PySem.W.Frag} {te : TE} {de : DTE} (h : TD C te de) : TDI C (iList K te) (iL de) := fun r hd hq => h r hd fun v x S1 H1 δ1 n1 g1 r1 s1 ⟨ds, e, hk⟩ => by
  subst e
  have s1 : Im _ _ _ (.list ds) := s1
  cases s1 with
  | @lst a vs _ na rd im => exact ⟨a, rfl, ⟨vs, .inl rd⟩, hq _ _ _ _ _ _ g1 r1 ((itok_seq na im).1 rd) hk⟩
def iT (de : DTE) : DTI := fun δ n R => de δ n fun x δ' n' => ∃ ds, x = .d (.tuple ds) ∧ R ds δ' n'
theorem tdi_tup {K : PySem.W.Frag} {te : TE} {de : DTE} (h : TD C te de) : TDI C (iTup K te) (iT de) := fun r hd hq => h r hd fun v x S1 H1 δ1 n1 g1 r1 s1 ⟨ds, e, hk⟩ => by
  subst e
  have s1 : Im _ _ _ (.tuple ds) := s1
  cases s1 with
  | @tup a vs _ na rd im => exact ⟨a, rfl, ⟨vs, .inl rd⟩, hq _ _ _ _ _ _ g1 r1 ((itok_seq na im).2 rd) hk⟩
def intsFrom (lo : Int) (m : Nat) : List PyData := (List.range m).map fun i => .int (lo + (i : Nat))
theorem intsFrom_length {lo : Int} {m : Nat} : (intsFrom lo m).length = m := by simp [intsFrom]
theorem intsFrom_get {lo : Int} {m i : Nat} (h : i < m) : (intsFrom lo m)[i]? = some (.int (lo + (i : Nat))) := by
  unfold intsFrom
  rw [List.getElem?_map, List.getElem?_range h]; rfl
theorem intsFrom_some {lo : Int} {m i : Nat} {d : PyData} (e : (intsFrom lo m)[i]? = some d) : i < m ∧ d = .int (lo + (i : Nat)) := by
  have hi : i < m := by have := (List.getElem?_eq_some_iff.mp e).1; rwa [intsFrom_length] at this
  rw [intsFrom_get hi] at e; cases e; exact ⟨hi, rfl⟩
theorem itok_range {U0 : List Addr} {H : Hp} {lo : Int} {m : Nat} : ItOk U0 H (Itr lo m) (intsFrom lo m) := fun U H' hU g al =>
  ⟨fun i hi => by rw [intsFrom_length] at hi; exact hi, fun i hi => by rw [intsFrom_length] at hi; exact hi, fun i x H'' hi ⟨e, ex⟩ => by
    subst e ex; rw [intsFrom_length] at hi; exact ⟨.refl _ _, _, intsFrom_get hi, .int _⟩⟩
def iR1 (da : DTBA) : DTI := fun δ n R => da δ n fun rs δ' n' => ∃ j : Int, atAll δ' rs = some [.d (.int j)] ∧ -(2 ^ 62) ≤ j ∧ j < 2 ^ 62 ∧ R (intsFrom 0 j.toNat) δ' n'
theorem tdi_rng1 {ta : TA} {da : DTBA} (h : TBA C ta da) : TDI C (iRng1 ta) (iR1 da) := fun r hd hq => h r hd fun vs rs S1 H1 δ1 n1 g1 r1 s1 ⟨j, e, b1, b2, hk⟩ => by
  obtain ⟨v, rfl, h1⟩ := shrs1 (RVs.use r1 s1 e)
  cases h1
  exact ⟨j, rfl, b1, b2, hq _ _ _ _ _ _ g1 r1 itok_range hk⟩
def iR2 (da : DTBA) : DTI := fun δ n R => da δ n fun rs δ' n' => ∃ i j : Int, atAll δ' rs = some [.d (.int i), .d (.int j)] ∧ (-(2 ^ 62) ≤ i ∧ i < 2 ^ 62 ∧ -(2 ^ 62) ≤ j ∧ j < 2 ^ 62) ∧ R (intsFrom i (j - i).toNat) δ' n'
theorem tdi_rng2 {ta : TA} {da : DTBA} (h : TBA C ta da) : TDI C (iRng2 ta) (iR2 da) := fun r hd hq => h r hd fun vs rs S1 H1 δ1 n1 g1 r1 s1 ⟨i, j, e, b, hk⟩ => by
  obtain ⟨v, w, rfl, h1, h2⟩ := shrs2 (RVs.use r1 s1 e)
  cases h1; cases h2
  exact ⟨i, j, rfl, b, hq _ _ _ _ _ _ g1 r1 itok_range hk⟩
def enumF : Nat → List PyData → List PyData
  | _, [] => []
  | k, d :: r => .tuple [.int (k : Nat), d] :: enumF (k + 1) r
theorem enumF_length : ∀ (k : Nat) (ds : List PyData), (enumF k ds).length = ds.length
  | _, [] => rfl
  | k, d :: r => by rw [enumF, List.length_cons, List.length_cons, enumF_length]
theorem enumF_get : ∀ {k : Nat} {ds : List PyData} {i : Nat} {d : PyData}, ds[i]? = some d → (enumF k ds)[i]? = some (.tuple [.int ((k + i : Nat)), d])
  | k, x :: r, 0, d, e => by simp at e; subst e; simp [enumF]
  | k, x :: r, i + 1, d, e => by
    simp at e
    have := enumF_get (k := k + 1) e
    rw [enumF, List.getElem?_cons_succ, this, show k + 1 + i = k + (i + 1) by omega]
theorem enumF_some {ds : List PyData} {i : Nat} {d : PyData} (e : (enumF 0 ds)[i]? = some d) : ∃ x, ds[i]? = some x ∧ d = .tuple [.int (i : Nat), x] := by
  have hi : i < ds.length := by have := (List.getElem?_eq_some_iff.mp e).1; rwa [enumF_length] at this
  have h := enumF_get (k := 0) (List.getElem?_eq_getElem hi)
  rw [h] at e
  injection e with e
  exact ⟨_, List.getElem?_eq_getElem hi, by rw [← e, Nat.zero_add]⟩
def iE (da : DTA) : DTI := fun δ n R => da δ n fun xs δ' n' => ∃ ds, xs = [.d (.list ds)] ∧ R (enumF 0 ds) δ' n'
theorem tdi_enum {K : PySem.W.Frag} {ta : TA} {da : DTA} (h : TDA C ta da) : TDI C (iEnum K ta) (iE da) := fun r hd hq => h r hd fun vs xs S1 H1 δ1 n1 g1 r1 s1 ⟨ds, e, hk⟩ => by
  subst e
  cases s1 with
  | cons s1 t =>
    cases t
    have s1 : Im _ _ _ (.list ds) := s1
    cases s1 with
    | @lst a ws _ na rd im =>
      refine ⟨a, ws, rfl, .inl rd, hq _ _ _ _ _ _ g1 r1 (fun U H' hU g al => ?_) hk⟩
      have hl := im.length
      have rd' : SqL K H' a ws := .inl (g.rx a _ (fun z => (hU a z).elim na (rd_some rd)) .l rd)
      refine ⟨fun i hi => ⟨ws, ws[i]'(by rw [enumF_length] at hi; omega), rd', List.getElem?_eq_getElem (by rw [enumF_length] at hi; omega)⟩, fun i hi => ⟨ws, rd', by rw [enumF_length] at hi; omega⟩, fun i x H'' hi ⟨T, y, ev, nT, eh, hy⟩ => ?_⟩
      subst ev eh
      obtain ⟨d, ed, iy⟩ := (im.to hU g).at_ (hy ws rd')
      refine ⟨.new nT, _, by rw [enumF_get ed, Nat.zero_add], .tup (al.ne nT) (.inl upd_same) (.cons (.int _) (.cons (iy.nx (.new nT)) .nil))⟩
/-! ### walks over dicts, locked meanwhile -/
theorem Rel.lock {F M S : List Addr} {H H1 : Hp} {σ : L2.St} {δ : DSt} {n : Nat} {d : Addr} {u : HO} (r : Rel C F M S H σ δ n) (hu : ∀ xs, u ≠ .lst xs) (hi : ∀ c x fs, u ≠ .ins c x fs) (hd : H d = some u) (hS : d ∉ S) (rx : Rx [] H H1) (ne : ∀ b, b ≠ d → H1 b = H b) (h1 : H1 d ≠ none) : Rel C F M S H1 σ δ n := by
  have rxU : Rx (S ++ F) H H1 := rx.mono0
  refine ⟨fun a ha => ?_, r.mf, r.dj, fun s hs => ?_, r.ln, fun i o e => ?_, r.nd⟩
  · by_cases e : a = d
    · rw [e]; exact h1
    · rw [ne a e]; exact r.al a ha
  · obtain ⟨x, y, z, e, q⟩ := (r.sp s hs).ex
    exact ⟨x, y, z, by rw [ne s (fun z => by rw [z, hd] at e; cases e; exact hu _ rfl)]; exact e, q⟩
  · obtain ⟨v, ev, h⟩ := r.sh i o e
    refine ⟨v, ev, ?_⟩
    cases o with
    | v x =>
      cases x with
      | d x => exact Im.rx rxU _ h
      | ring k A =>
        obtain ⟨a, ea, na, dx, q, e1, im⟩ := h
        exact ⟨a, ea, na, dx, q, by rw [ne a (fun z => by rw [z, hd] at e1; cases e1; exact hi _ _ _ rfl)]; exact e1, Im.rx rxU _ im⟩
      | s => exact h
      | ty t => exact h
      | raw u => exact h
    | l xs => obtain ⟨a, vs, ea, ha, e1, im⟩ := h; exact ⟨a, vs, ea, ha, by rw [ne a (fun z => hS (z ▸ ha))]; exact e1, ImAll.rx rxU _ im⟩
    | m kvs => obtain ⟨a, ks, ea, ha, e1, nd, im⟩ := h; exact ⟨a, ks, ea, ha, by rw [ne a (fun z => hS (z ▸ ha))]; exact e1, nd, ImKv.rx rxU _ im⟩
theorem Stp.unlock {M S S' : List Addr} {H H1 H' H2 : Hp} {d : Addr} (ne : ∀ b, b ≠ d → H1 b = H b) (hd : H d ≠ none) (g : Stp M S H1 S' H') (ne2 : ∀ b, b ≠ d → H2 b = H' b) (e2 : H2 d = H d) (h1 : H1 d ≠ none) : Stp M S H S' H2 := by
  refine ⟨⟨fun c o hc e => ?_, fun c h => ?_⟩, fun a ha => ?_⟩
  · by_cases z : c = d
    · rw [z, e2, ← z]; exact e
    · rw [ne2 c z]; exact g.nx.kp c o hc (by rw [ne c z]; exact e)
  · by_cases z : c = d
    · rw [z, e2]; exact hd
    · rw [ne2 c z]; exact g.nx.th c (by rw [ne c z]; exact h)
  · rcases g.nw a ha with z | z
    · exact .inl z
    · by_cases e : a = d
      · rw [e] at z; exact absurd z h1
      · exact .inr (by rw [← ne a e]; exact z)
def keysD (ds : List (PyData × PyData)) : List PyData := ds.map (·.1)
theorem itok_keys {U0 : List Addr} {H : Hp} {a : Addr} {od : Obj} {ks : List (Key × V)} {ds : List (PyData × PyData)} (na : a ∉ U0) (im : ImKv U0 H ks ds) (e : H a = some (.frz od (.dK ks))) : ItOk U0 H (Itk a od ks) (keysD ds) := fun U H' hU g al => by
  have hl := im.length
  have e' : H' a = some (.frz od (.dK ks)) := g.kp a _ (fun z => (hU a z).elim na (by rw [e]; simp)) e
  have kl : (keysD ds).length = ks.length := by unfold keysD; rw [List.length_map, hl]
  refine ⟨fun i hi => ⟨e', by omega⟩, fun i hi => ⟨e', by omega⟩, fun i x H'' hi ⟨eh, k, v, ek, ex⟩ => ?_⟩
  subst eh ex
  obtain ⟨d, ed, _⟩ := im.get ek
  exact ⟨.refl _ _, kD k, by unfold keysD; rw [List.getElem?_map, ed]; rfl, Im.key k⟩
/-- the items of a walk over a dict in a slot (no longer changed) -/
def iK (i : Nat) : DTI := fun δ n R => ∃ ds, ((δ[i]? = some (some (.v (.d (.dict ds)))) ∧ R (keysD ds) δ n) ∨ (δ[i]? = some (some (.m ds)) ∧ R (keysD ds) (δ.set i (some (.v (.d (.dict ds))))) n))
theorem iK_fr {F M S : List Addr} {H : Hp} {σ : L2.St} {δ : DSt} {n i : Nat} {R : List PyData → DSt → Nat → Prop} (r : Rel C F M S H σ δ n) (h : iK i δ n R) : ∃ S1 δ1 a ks ds, σ[i]? = some (some (.ref a)) ∧ Stp M S H S1 H ∧ Rel C F M S1 H σ δ1 n ∧ a ∉ S1 ++ F ∧ Rd H a (.dK ks) ∧ (ks.map (·.1)).Nodup ∧ ImKv (S1 ++ F) H ks ds ∧ R (keysD ds) δ1 n := by
  obtain ⟨ds, ⟨e, hk⟩ | ⟨e, hk⟩⟩ := h
  · obtain ⟨v, ev, sh⟩ := r.getV e
    have sh : Im _ _ _ (.dict ds) := sh
    cases sh with
    | @dct a ks _ na rd nd im => exact ⟨S, δ, a, ks, ds, ev, .refl, r, na, rd, nd, im, hk⟩
  · obtain ⟨v, S1, ev, g, r1, sh⟩ := r.freeze e trivial
    have sh : Im _ _ _ (.dict ds) := sh
    cases sh with
    | @dct a ks _ na rd nd im => exact ⟨S1, _, a, ks, ds, ev, g, r1, na, rd, nd, im, hk⟩
theorem lock_rel {F M S : List Addr} {H H1 : Hp} {σ : L2.St} {δ : DSt} {n : Nat} {a : Addr} {ks : List (Key × V)} (r1 : Rel C F M S H σ δ n) (rd : Rd H a (.dK ks)) (aS : a ∉ S) (rx : Rx [] H H1) (ne : ∀ b, b ≠ a → H1 b = H b) (h1 : H1 a ≠ none) : Rel C F M S H1 σ δ n := by
  rcases rd with e | ⟨o, e⟩
  · exact r1.lock (fun _ z => by cases z) (fun _ _ _ z => by cases z) e aS rx ne h1
  · exact r1.lock (fun _ z => by cases z) (fun _ _ _ z => by cases z) e aS rx ne h1
theorem tds_forK {i : Nat} {g : TG} {kt : List Nat} {tb : TS} {dg : DTG} {db : DTS} (hg : TDG C g kt dg) (hb : TDS C tb db) : TDS C (sLockU (tFor (iKeys (tVar i)) g tb)) (dFor (iK i) dg db) := fun {F M S H σ δ n D DD} r hd hn hr hbk hct => by
  obtain ⟨S1, δ1, a, ks, ds, ev, g1, r1, na, rd, nd, im, hk⟩ := iK_fr r hd
  have aS : a ∉ S1 := fun z => na (List.mem_append_left _ z)
  refine lock_s rd fun H1 od nx rt bk ct rx ne e1 kn kr => ?_
  have h1 : H1 a ≠ none := by rw [e1]; simp
  have r2 : Rel C F M S1 H1 σ δ1 n := lock_rel r1 rd aS rx ne h1
  have stay : ∀ {S' H'}, Stp M S1 H1 S' H' → H' a = some (.frz od (.dK ks)) := fun {S' H'} g => g.nx.kp a _ (fun z => na ((List.mem_append.mp z).elim (List.mem_append_left _) fun z => List.mem_append_right _ (r1.mf a z))) e1
  have outS : ∀ {S' H'}, Stp M S1 H1 S' H' → a ∉ S' := fun g z => (g.nw a z).elim aS h1
  have im2 : ImKv (S1 ++ F) H1 ks ds := ImKv.rx (rx.mono0) _ im
  obtain ⟨P, p0, ps, pe⟩ := hk
  have back : ∀ {S' H' σ' δ' n' H2}, Stp M S1 H1 S' H' → Rel C F M S' H' σ' δ' n' → Rx [] H' H2 → (∀ b, b ≠ a → H2 b = H' b) → H2 a = H a → Stp M S H S' H2 ∧ Rel C F M S' H2 σ' δ' n' := fun {S' H' σ' δ' n' H2} g r' rx2 ne2 e2 =>
    ⟨g1.trans (Stp.unlock ne (rd_some rd) g ne2 e2 h1), r'.lock (fun _ z => by cases z) (fun _ _ _ z => by cases z) (stay g) (outS g) rx2 ne2 (by rw [e2]; exact rd_some rd)⟩
  refine ⟨.ref a, ev, a, od, rfl, .inl ⟨ks, e1, for_core (DD := DD) r2 (itok_keys na im2 e1) hg hb P p0 ps (fun S' H' σ' δ' n' g' r' p => kn σ' H' (stay g') fun H2 rx2 ne2 e2 => ?_) (fun S' H' σ' δ' n' g' r' hk => kn σ' H' (stay g') fun H2 rx2 ne2 e2 => ?_) (fun v x S' H' n' g' sp sv hk => kr v H' (stay g') fun H2 rx2 ne2 e2 => ?_)⟩⟩
  · obtain ⟨ga, ra⟩ := back g' r' rx2 ne2 e2
    exact hn _ _ _ _ _ ga ra (pe _ _ p)
  · obtain ⟨ga, ra⟩ := back g' r' rx2 ne2 e2
    exact hn _ _ _ _ _ ga ra hk
  · have ga : Stp M S H S' H2 := g1.trans (Stp.unlock ne (rd_some rd) g' ne2 e2 h1)
    refine hr _ x S' H2 n' ga (fun s hs => ?_) ?_ hk
    · obtain ⟨x, y, z, e, q⟩ := (sp s hs).ex
      exact ⟨x, y, z, by rw [ne2 s (fun z => by rw [z, stay g'] at e; cases e)]; exact e, q⟩
    · cases x with
      | d x => exact Im.rx rx2.mono0 _ sv
      | ring k A =>
        obtain ⟨b, eb, nb, dx, q, e3, im3⟩ := sv
        exact ⟨b, eb, nb, dx, q, by rw [ne2 b (fun z => by rw [z, stay g'] at e3; cases e3)]; exact e3, Im.rx rx2.mono0 _ im3⟩
      | s => exact sv
      | ty t => exact sv
      | raw u => exact sv
/-- [.. for k in d] -/
def dLcK (i : Nat) (g : DTG) (dt : DTT) (de : DTE) (vs : List Nat) : DTF := dLc (iK i) g dt de vs
theorem tdf_lcK {i : Nat} {g : TG} {kt vs : List Nat} {tt : TT} {te : TE} {dg : DTG} {dt : DTT} {de : DTE} (hg : TDG C g kt dg) (ht : TDT C tt dt) (he : TD C te de) (hk : ∀ k ∈ kt, k ∈ vs) : TDF C (tLockU (tLc (iKeys (tVar i)) g tt te vs)) (dLc (iK i) dg dt de vs) := fun {F M S H σ δ n R Q} r hd hq => by
  obtain ⟨S1, δ1, a, ks, ds, ev, g1, r1, na, rd, nd, im, hd⟩ := iK_fr r hd
  have aS : a ∉ S1 := fun z => na (List.mem_append_left _ z)
  refine lock_e rd fun H1 od Rq rx ne e1 kq => ?_
  have h1 : H1 a ≠ none := by rw [e1]; simp
  have r2 : Rel C F M S1 H1 σ δ1 n := lock_rel r1 rd aS rx ne h1
  have stay : ∀ {S' H'}, Stp M S1 H1 S' H' → H' a = some (.frz od (.dK ks)) := fun {S' H'} g => g.nx.kp a _ (fun z => na ((List.mem_append.mp z).elim (List.mem_append_left _) fun z => List.mem_append_right _ (r1.mf a z))) e1
  have outS : ∀ {S' H'}, Stp M S1 H1 S' H' → a ∉ S' := fun g z => (g.nw a z).elim aS h1
  have im2 : ImKv (S1 ++ F) H1 ks ds := ImKv.rx (rx.mono0) _ im
  obtain ⟨P, p0, ps, pe⟩ := hd
  refine ⟨.ref a, ev, a, od, rfl, .inl ⟨ks, e1, fun D nD => lc_core (R := R) r2 (itok_keys na im2 e1) nD hg ht he hk P p0 ps pe fun p acc S' H' δ' n' gS ra rb z1 z2 no hR ep => kq _ H' (stay gS) fun H2 rx2 ne2 e2 => ?_⟩⟩
  subst ep
  have pa : p ≠ a := fun z => by rw [z, e1] at nD; cases nD
  have aP : a ∉ p :: S' := fun z => (List.mem_cons.mp z).elim (fun z => pa z.symm) (outS gS)
  refine hq p (.l acc) S' H2 δ' n' (g1.trans (Stp.unlock ne (rd_some rd) gS ne2 e2 h1)) (ra.lock (fun _ z => by cases z) (fun _ _ _ z => by cases z) (stay gS) (outS gS) rx2 ne2 (by rw [e2]; exact rd_some rd)) (rb.lock (fun _ z => by cases z) (fun _ _ _ z => by cases z) (stay gS) aP rx2 ne2 (by rw [e2]; exact rd_some rd)) (by rw [← ne p pa]; exact nD) z1 z2 ?_ hR
  obtain ⟨ws, e5, im5⟩ := no
  exact ⟨ws, by rw [ne2 p pa]; exact e5, ImAll.rx rx2.mono0 _ im5⟩
end
end RG

/-! the data layer: kinds; all, any; sorted; lists and dicts made of others; changes of one's own; rings -/
namespace RG
open PySem PySem.Spec PyProof.Rows L2
section
variable {C : Addr}
theorem shvs_s {F M : List Addr} {H : Hp} {vs : List V} {xs : List DV} (h : ShVs C F M H vs (.s :: xs)) : ∃ s ws, vs = .ref s :: ws ∧ M = [s] ∧ ShVs C F M H ws xs := by
  cases h with
  | cons a t => obtain ⟨s, e, m⟩ := a; exact ⟨s, _, by rw [e], m, t⟩
theorem shvs_d {F M : List Addr} {H : Hp} {vs : List V} {d : PyData} {xs : List DV} (h : ShVs C F M H vs (.d d :: xs)) : ∃ v ws, vs = v :: ws ∧ Im F H v d ∧ ShVs C F M H ws xs := by
  cases h with
  | cons a t => exact ⟨_, _, rfl, a, t⟩
theorem shvs_r {F M : List Addr} {H : Hp} {vs : List V} {h : Int} {A : Arcs} {xs : List DV} (hh : ShVs C F M H vs (.ring h A :: xs)) : ∃ a ws, vs = .ref a :: ws ∧ RingR F H C a h A ∧ ShVs C F M H ws xs := by
  cases hh with
  | cons a t => obtain ⟨p, e, r⟩ := a; exact ⟨p, _, by rw [e], r, t⟩
theorem Df.imp {P : Program} {w : World} {K : PySem.W.Frag} {mg : Str → Option Value} {base : Heap} {CX : CXT} {k : Nat} {x : Str} {ps : List Str} {sp sp' : Sp} (D : Df P w K mg base CX k x ps sp) (h : ∀ vs H Q E, sp' vs H Q E → sp vs H Q E) : Df P w K mg base CX k x ps sp' := by
  obtain ⟨f, fd, a, b, c, d⟩ := D.ex
  exact ⟨f, fd, a, b.imp h, c, d⟩
theorem Mt.imp {P : Program} {w : World} {K : PySem.W.Frag} {mg : Str → Option Value} {base : Heap} {k : Nat} {m : Str} {ps : List Str} {sp sp' : Sp} (D : Mt P w K mg base C k m ps sp) (h : ∀ vs H Q E, sp' vs H Q E → sp vs H Q E) : Mt P w K mg base C k m ps sp' := by
  obtain ⟨f, fd, a, b, c, d⟩ := D.ex
  exact ⟨f, fd, a, b, c.imp h, d⟩
/-! ### kinds -/
def fIs : FA := fun as k => ∃ x T, as = [.d x, .ty T] ∧ T ∈ six ∧ k (.d (.bool (isT x T)))
theorem ok_is : CallOk C rIsD fIs := fun {U M H vs as k Q} al h ⟨x, T, e, hT, hk⟩ hq => by
  subst e
  obtain ⟨v, w, rfl, h1, h2⟩ := shrs2 h
  obtain rfl : w = .ty T := h2
  exact ⟨v, T, [], x, rfl, hT, ImR.im0 h1, hq _ _ _ (.refl _ _) (sh_bl _) hk⟩
/-- isinstance(x, (A, B)), (A, B, C) -/
def dIs2 (A B : String) (db : DTB) : DTE := fun δ n R => db δ n fun rv δ' n' => ∃ x, rv.at δ' = some (.d x) ∧ R (.d (.bool (isT x A || isT x B))) δ' n'
theorem td_is2 {A B : String} {te : TE} {db : DTB} (h : TB C te db) (hA : A ∈ six) (hB : B ∈ six) : TD C (tCB rIsDT (tCons te (tCons (tTup (tCons (tC (.ty A)) (tCons (tC (.ty B)) tNil))) tNil))) (dIs2 A B db) := fun r hd hq => h r hd fun v x S1 H1 δ1 n1 g1 r1 s1 ⟨d, e, hk⟩ => by
  refine ⟨show [V.ty A, V.ty B].length ≤ sizeLine from (by decide : 2 ≤ sizeLine), fun p np => ?_⟩
  have g : Nx [] H1 (upd H1 p (.tup [.ty A, .ty B])) := .new np
  refine ⟨v, p, [A, B], [], d, rfl, upd_same, fun T hT => ?_, (ImR.im0 (s1.use r1 e)).nx g, hq _ _ _ _ _ _ (g1.trans (.of0 g)) (r1.nx0 g) (sh_bl _) ?_⟩
  · simp only [List.mem_cons, List.not_mem_nil, or_false] at hT
    rcases hT with e | e <;> rw [e] <;> assumption
  · rw [List.any_cons, List.any_cons, List.any_nil, Bool.or_false]; exact hk
def dIs3 (A B D : String) (db : DTB) : DTE := fun δ n R => db δ n fun rv δ' n' => ∃ x, rv.at δ' = some (.d x) ∧ R (.d (.bool (isT x A || (isT x B || isT x D)))) δ' n'
theorem td_is3 {A B D : String} {te : TE} {db : DTB} (h : TB C te db) (hA : A ∈ six) (hB : B ∈ six) (hD : D ∈ six) : TD C (tCB rIsDT (tCons te (tCons (tTup (tCons (tC (.ty A)) (tCons (tC (.ty B)) (tCons (tC (.ty D)) tNil)))) tNil))) (dIs3 A B D db) := fun r hd hq => h r hd fun v x S1 H1 δ1 n1 g1 r1 s1 ⟨d, e, hk⟩ => by
  refine ⟨show [V.ty A, V.ty B, V.ty D].length ≤ sizeLine from (by decide : 3 ≤ sizeLine), fun p np => ?_⟩
  have g : Nx [] H1 (upd H1 p (.tup [.ty A, .ty B, .ty D])) := .new np
  refine ⟨v, p, [A, B, D], [], d, rfl, upd_same, fun T hT => ?_, (ImR.im0 (s1.use r1 e)).nx g, hq _ _ _ _ _ _ (g1.trans (.of0 g)) (r1.nx0 g) (sh_bl _) ?_⟩
  · simp only [List.mem_cons, List.not_mem_nil, or_false] at hT
    rcases hT with e | e | e <;> rw [e] <;> assumption
  · rw [List.any_cons, List.any_cons, List.any_cons, List.any_nil, Bool.or_false]; exact hk
/-! ### all, any, least, greatest -/
def fBs (g : List Bool → Bool) : FA := fun as k => ∃ bs : List Bool, as = [.d (.list (bs.map .bool))] ∧ k (.d (.bool (g bs)))
theorem ok_all {K : PySem.W.Frag} : CallOk C (rAll K) (fBs fun bs => bs.all id) := fun {U M H vs as k Q} al h ⟨bs, e, hk⟩ hq => by
  subst e
  obtain ⟨v, rfl, h1⟩ := shrs1 h
  obtain ⟨p, ws, rfl, rd, im⟩ := h1
  rw [ImAll.bools_inv im] at rd
  exact ⟨p, bs, rfl, .inl rd, hq _ _ _ (.refl _ _) (sh_bl _) hk⟩
theorem ok_any {K : PySem.W.Frag} : CallOk C (rAny K) (fBs fun bs => bs.any id) := fun {U M H vs as k Q} al h ⟨bs, e, hk⟩ hq => by
  subst e
  obtain ⟨v, rfl, h1⟩ := shrs1 h
  obtain ⟨p, ws, rfl, rd, im⟩ := h1
  rw [ImAll.bools_inv im] at rd
  exact ⟨p, bs, rfl, .inl rd, hq _ _ _ (.refl _ _) (sh_bl _) hk⟩
def fI2 (g : Int → Int → Int) : FA := fun as k => ∃ i j, as = [.d (.int i), .d (.int j)] ∧ k (.d (.int (g i j)))
theorem ok_I2 {g : Int → Int → Int} : CallOk C (fun xs H Q => ∃ i j, xs = [.int i, .int j] ∧ Q (.int (g i j)) H) (fI2 g) := fun {U M H vs as k Q} al h ⟨i, j, e, hk⟩ hq => by
  subst e
  obtain ⟨v, w, rfl, h1, h2⟩ := shrs2 h
  cases h1; cases h2
  exact ⟨i, j, rfl, hq _ _ _ (.refl _ _) (sh_int _) hk⟩
def fI1 (g : Int → Int) : FA := fun as k => ∃ i, as = [.d (.int i)] ∧ k (.d (.int (g i)))
theorem ok_I1 {g : Int → Int} : CallOk C (fun xs H Q => ∃ i, xs = [.int i] ∧ Q (.int (g i)) H) (fI1 g) := fun {U M H vs as k Q} al h ⟨i, e, hk⟩ hq => by
  subst e
  obtain ⟨v, rfl, h1⟩ := shrs1 h
  cases h1
  exact ⟨i, rfl, hq _ _ _ (.refl _ _) (sh_int _) hk⟩
theorem ok_int1 : CallOk C (fun xs H Q => (∃ i, xs = [.int i] ∧ Q (.int i) H) ∨ ∃ k, xs = [.bl k] ∧ Q (.int (if k then 1 else 0)) H) (fI1 id) := fun {U M H vs as k Q} al h ⟨i, e, hk⟩ hq => by
  subst e
  obtain ⟨v, rfl, h1⟩ := shrs1 h
  cases h1
  exact .inl ⟨i, rfl, hq _ _ _ (.refl _ _) (sh_int _) hk⟩
/-! ### sorted, list, dict -/
theorem kv_keysS {U : List Addr} {H : Hp} {ks : List (Key × V)} {ds : List (PyData × PyData)} {ss : List Str} (im : ImKv U H ks ds) (e : ds.map (·.1) = ss.map .str) : ks.map (·.1) = ss.map Sum.inr := by
  refine kD_map ?_
  rw [List.map_map, ← e, im.keys]; rfl
def nSortedD : FN := fun as k => ∃ (ds : List (PyData × PyData)) (ss : List Str), as = [.d (.dict ds)] ∧ ds.map (·.1) = ss.map .str ∧ ss.length < 64 ∧ ∀ ys : List Str, ys.Perm ss → sortedS ys = true → k (.l (ys.map .str))
theorem ok_sortedD : NewOk C (fun xs H Q => ∃ (a : Addr) (kvs : List (Key × V)) (ks : List Str), xs = [.ref a] ∧ Rd H a (.dK kvs) ∧ kvs.map (·.1) = ks.map Sum.inr ∧ ks.length < 64 ∧
    ∀ (ys : List Str) (p : Addr), ys.Perm ks → sortedS ys = true → H p = none → Q (.ref p) (upd H p (.lst (ys.map V.str)))) nSortedD := fun {U M H vs as k Q} al h ⟨ds, ss, e, ek, hl, hk⟩ hq => by
  subst e
  obtain ⟨v, rfl, h1⟩ := shrs1 h
  obtain ⟨a, ks, rfl, rd, nd, im⟩ := h1
  exact ⟨a, ks, ss, rfl, rd, kv_keysS im ek, hl, fun ys p hp hs np => hq p (.l (ys.map .str)) _ np (.new np) (by rw [upd_same]; simp) ⟨_, upd_same, ImAll.strs ys⟩ (hk ys hp hs)⟩
def nKeys : FN := fun as k => ∃ ds, as = [.d (.dict ds)] ∧ k (.l (keysD ds))
theorem kv_kv {U : List Addr} {H : Hp} : ∀ {ks : List (Key × V)} {ds : List (PyData × PyData)}, ImKv U H ks ds → ∀ {T : List Addr} {H' : Hp}, ImAll T H' (ks.map fun kv => kV kv.1) (keysD ds)
  | _, _, .nil, _, _ => .nil
  | _, _, .cons _ t, _, _ => .cons (Im.key _) (kv_kv t)
theorem ok_listD : NewOk C rListD nKeys := fun {U M H vs as k Q} al h ⟨ds, e, hk⟩ hq => by
  subst e
  obtain ⟨v, rfl, h1⟩ := shrs1 h
  obtain ⟨a, ks, rfl, rd, nd, im⟩ := h1
  exact ⟨a, ks, rfl, rd, fun p np => hq p (.l (keysD ds)) _ np (.new np) (by rw [upd_same]; simp) ⟨_, upd_same, kv_kv im⟩ hk⟩
def nCopyL : FN := fun as k => ∃ ds, (as = [.d (.list ds)] ∨ as = [.d (.tuple ds)]) ∧ k (.l ds)
theorem ok_listOf {K : PySem.W.Frag} : NewOk C (rListOf K) nCopyL := fun {U M H vs as k Q} al h ⟨ds, e, hk⟩ hq => by
  rcases e with e | e
  · subst e
    obtain ⟨v, rfl, h1⟩ := shrs1 h
    obtain ⟨a, ws, rfl, rd, im⟩ := h1
    exact ⟨a, ws, rfl, .inl (.inl rd), fun p np => hq p (.l ds) _ np (.new np) (by rw [upd_same]; simp) ⟨ws, upd_same, im.apart np⟩ hk⟩
  · subst e
    obtain ⟨v, rfl, h1⟩ := shrs1 h
    obtain ⟨a, ws, rfl, rd, im⟩ := h1
    exact ⟨a, ws, rfl, .inr (.inl rd), fun p np => hq p (.l ds) _ np (.new np) (by rw [upd_same]; simp) ⟨ws, upd_same, im.apart np⟩ hk⟩
def nCopyM : FN := fun as k => ∃ ds, as = [.d (.dict ds)] ∧ k (.m ds)
theorem ok_dictD : NewOk C rDictD nCopyM := fun {U M H vs as k Q} al h ⟨ds, e, hk⟩ hq => by
  subst e
  obtain ⟨v, rfl, h1⟩ := shrs1 h
  obtain ⟨a, ks, rfl, rd, nd, im⟩ := h1
  exact ⟨a, ks, rfl, rd, fun p np => hq p (.m ds) _ np (.new np) (by rw [upd_same]; simp) ⟨ks, upd_same, nd, im.apart np⟩ hk⟩
/-- dict of a list of pairs with unlike keys -/
def nPairs : FN := fun as k => ∃ ds : List (PyData × PyData), as = [.d (.list (ds.map fun p => .tuple [p.1, p.2]))] ∧ (∀ p ∈ ds, ∃ k, p.1 = kD k) ∧ (ds.map (·.1)).Nodup ∧ k (.m ds)
theorem ok_dictP {K : PySem.W.Frag} : NewOk C (rDictP K) nPairs := fun {U M H vs as k Q} al h ⟨ds, e, hkd, hn, hk⟩ hq => by
  subst e
  obtain ⟨v, rfl, h1⟩ := shrs1 h
  obtain ⟨a, ws, rfl, rd, im⟩ := h1
  obtain ⟨ps, kvs, e, pr, ik⟩ := im.pairs_inv hkd
  have nd : (kvs.map (·.1)).Nodup := by
    have e2 := ik.keys
    rw [e2, show (kvs.map fun kv => kD kv.1) = (kvs.map (·.1)).map kD by rw [List.map_map]; rfl] at hn
    exact List.Pairwise.of_map kD (fun a b hne e => hne (congrArg kD e)) hn
  refine ⟨a, ps, kvs, rfl, .inl (by rw [← e]; exact rd), L2.Paired.mapP pr fun p kv r => .inl r, fun p np => ?_⟩
  rw [merge_nil nd]
  exact hq p (.m ds) _ np (.new np) (by rw [upd_same]; simp) ⟨kvs, upd_same, nd, ik.apart np⟩ hk
/-! ### changes of one's own -/
theorem Rel.putL {F M S : List Addr} {H : Hp} {σ : L2.St} {δ : DSt} {n i : Nat} {a : Addr} {u : HO} {o o0 : DO} (r : Rel C F M S H σ δ n) (e0 : δ[i]? = some (some o0)) (h0 : o0.own) (ev : σ[i]? = some (some (.ref a))) (ha : a ∈ S) (ho : o.own) (sh : ShO C S F M (upd H a u) (.ref a) o) : Rel C F M S (upd H a u) σ (δ.set i (some o)) n := by
  have gU : Nx (S ++ F) H (upd H a u) := .put (List.mem_append_left _ ha)
  have aM : ∀ s ∈ M, s ≠ a := fun s hs z => r.dj a ha (z ▸ r.mf s hs)
  have hi : i < δ.length := (List.getElem?_eq_some_iff.mp e0).1
  refine ⟨fun b hb => gU.th b (r.al b hb), r.mf, r.dj, fun s hs => ?_, by rw [List.length_set, r.ln], fun j o2 e => ?_, fun j k o1 o2 b hjk e1 e2 w1 w2 s1 s2 => ?_⟩
  · obtain ⟨x, y, z, e, q⟩ := (r.sp s hs).ex
    exact ⟨x, y, z, by rw [upd_ne (aM s hs)]; exact e, q⟩
  · rw [List.getElem?_set] at e
    by_cases hij : i = j
    · subst hij
      rw [if_pos rfl, if_pos hi] at e
      cases e
      exact ⟨_, ev, sh⟩
    · rw [if_neg hij] at e
      obtain ⟨v, ev2, h⟩ := r.sh j o2 e
      refine ⟨v, ev2, ?_⟩
      have ne : ∀ b, o2.own → v = .ref b → b ≠ a := fun b hw eb z => r.nd i j o0 o2 a hij e0 e h0 hw ev (by rw [ev2, eb, z])
      cases o2 with
      | v x => exact ShV.nx gU h
      | l xs => obtain ⟨b, vs, eb, hb, e3, im⟩ := h; exact ⟨b, vs, eb, hb, by rw [upd_ne (ne b trivial eb)]; exact e3, im.nx gU⟩
      | m kvs => obtain ⟨b, ks, eb, hb, e3, nd, im⟩ := h; exact ⟨b, ks, eb, hb, by rw [upd_ne (ne b trivial eb)]; exact e3, nd, im.nx gU⟩
  · rw [List.getElem?_set] at e1 e2
    have own0 : ∀ {j : Nat} {o' : DO}, (if i = j then if i < δ.length then some (some o) else none else δ[j]?) = some (some o') → o'.own → ∃ o'', δ[j]? = some (some o'') ∧ o''.own := fun {j o'} e w => by
      by_cases hij : i = j
      · subst hij; exact ⟨o0, e0, h0⟩
      · rw [if_neg hij] at e; exact ⟨o', e, w⟩
    obtain ⟨p1, q1, w1⟩ := own0 e1 w1
    obtain ⟨p2, q2, w2⟩ := own0 e2 w2
    exact r.nd j k p1 p2 b hjk q1 q2 w1 w2 s1 s2
/-- xs.append(e) -/
def dAppend (i : Nat) (de : DTE) : DTS := fun D δ n => (∃ o, δ[i]? = some (some o)) ∧ de δ n fun x δ1 n1 => ∃ y xs, x = .d y ∧ δ1[i]? = some (some (.l xs)) ∧ xs.length < 1000000 ∧ D.nx (δ1.set i (some (.l (xs ++ [y])))) n1
theorem tds_append {K : PySem.W.Frag} {i : Nat} {te : TE} {de : DTE} (h : TD C te de) (hl : ∀ (δ : DSt) (n : Nat) (R : DV → DSt → Nat → Prop), de δ n R → True) : TDS C (tDrop (tBM K "list" rAppend (tVar i) (tCons te tNil))) (fun D δ n => (∃ xs, δ[i]? = some (some (.l xs))) ∧ dAppend i de D δ n) := fun {F M S H σ δ n D DD} r ⟨⟨xs0, e00⟩, ⟨o, e0⟩, hd⟩ hn _ _ _ => by
  obtain ⟨v, ev, sh⟩ := r.sh i _ e00
  obtain ⟨a, vs0, ea, ha, ea0, _⟩ := sh
  subst ea
  refine ⟨.ref a, ev, .inl ⟨rfl, vs0, .inl (.inl ea0)⟩, h r hd fun v x S1 H1 δ1 n1 g1 r1 s1 ⟨y, xs, ex, e1, hlen, hk⟩ => ?_⟩
  subst ex
  obtain ⟨v2, ev2, sh2⟩ := r1.sh i _ e1
  obtain ⟨b, vs, eb, hb, eb0, im⟩ := sh2
  rw [ev] at ev2
  cases ev2
  cases eb
  have lv := im.length
  refine ⟨a, vs, v, rfl, rfl, eb0, Nat.lt_of_lt_of_le (show vs.length < 1000000 by omega) (by decide), ?_⟩
  have gU : Nx (S1 ++ F) H1 (upd H1 a (.lst (vs ++ [v]))) := .put (List.mem_append_left _ hb)
  exact hn _ _ _ _ _ (g1.trans (.put hb)) (r1.putL (o := .l (xs ++ [y])) e1 trivial ev hb trivial ⟨a, _, rfl, hb, upd_same, (im.nx gU).snoc (Im.nx gU s1)⟩) hk
def putD (ds : List (PyData × PyData)) (k : Key) (d : PyData) : List (PyData × PyData) := if (ds.any fun p => decide (keyD p.1 = some k)) = true then ds.map (fun p => if keyD p.1 = some k then (p.1, d) else p) else ds ++ [(kD k, d)]
theorem keyD_kD : ∀ k : Key, keyD (kD k) = some k
  | .inl _ => rfl
  | .inr _ => rfl
theorem any_im {S : List Addr} {H : Hp} {k : Key} : ∀ {kvs : List (Key × V)} {ds : List (PyData × PyData)}, ImKv S H kvs ds → (ds.any fun p => decide (keyD p.1 = some k)) = kvs.any fun p => decide (p.1 = k)
  | _, _, .nil => rfl
  | _, _, .cons (k := k1) a t => by
    rw [List.any_cons, List.any_cons, any_im t]
    dsimp only
    rw [keyD_kD]
    by_cases e : k1 = k <;> simp [e]
theorem map_im {S : List Addr} {H : Hp} {k : Key} {v : V} {d : PyData} (hv : Im S H v d) : ∀ {kvs : List (Key × V)} {ds : List (PyData × PyData)}, ImKv S H kvs ds → ImKv S H (kvs.map fun kv => if kv.1 = k then (kv.1, v) else kv) (ds.map fun p => if keyD p.1 = some k then (p.1, d) else p)
  | _, _, .nil => .nil
  | _, _, .cons (k := k1) a t => by
    have ih := map_im (k := k) hv t
    rw [List.map_cons, List.map_cons]
    dsimp only
    rw [keyD_kD]
    by_cases e : k1 = k
    · rw [if_pos e, if_pos (by rw [e])]; exact .cons hv ih
    · rw [if_neg e, if_neg (by simp [e])]; exact .cons a ih
theorem ImKv.putD {S : List Addr} {H : Hp} {k : Key} {v : V} {d : PyData} {kvs : List (Key × V)} {ds : List (PyData × PyData)} (ik : ImKv S H kvs ds) (hv : Im S H v d) : ImKv S H (L2.putK kvs k v) (RG.putD ds k d) := by
  unfold L2.putK RG.putD
  rw [any_im ik]
  split
  · exact map_im hv ik
  · exact ik.snoc hv
theorem putK_nd {kvs : List (Key × V)} {k : Key} {v : V} (nd : (kvs.map (·.1)).Nodup) : ((L2.putK kvs k v).map (·.1)).Nodup := by
  by_cases h : k ∈ kvs.map (·.1)
  · unfold L2.putK
    rw [if_pos]
    · rw [List.map_map, show (kvs.map ((fun x => x.1) ∘ fun kv => if kv.1 = k then (kv.1, v) else kv)) = kvs.map (·.1) from List.map_congr_left fun p _ => by
        show (if p.1 = k then (p.1, v) else p).1 = p.1
        split <;> rfl]
      exact nd
    · obtain ⟨p, hp, e⟩ := List.mem_map.mp h
      exact List.any_eq_true.mpr ⟨p, hp, decide_eq_true e⟩
  · rw [RG.putK_new h, List.map_append]
    exact List.nodup_append.mpr ⟨nd, by simp, fun x hx y hy z => h (by
      have hy' : y = k := by simpa using hy
      rw [← hy', ← z]; exact hx)⟩
theorem putD_new {ds : List (PyData × PyData)} {k : Key} {d : PyData} (h : lookK ds k = none) (hk : ∀ p ∈ ds, ∃ k, p.1 = kD k) : putD ds k d = ds ++ [(kD k, d)] := by
  unfold putD
  rw [if_neg]
  intro z
  obtain ⟨p, hp, e⟩ := List.any_eq_true.mp z
  have e := of_decide_eq_true e
  clear z
  induction ds with
  | nil => simp at hp
  | cons q r ih =>
    obtain ⟨q1, q2⟩ := q
    obtain ⟨k1, e1⟩ := hk (q1, q2) List.mem_cons_self
    dsimp only at e1
    subst e1
    have ne : ¬ k1 = k := fun z => by
      subst z
      cases k1 <;> simp [kD, lookK] at h
    have hr : lookK r k = none := by
      cases k1 <;> exact (if_neg (fun z => ne (Eq.symm z))).symm.trans h
    rcases List.mem_cons.mp hp with z | z
    · subst z
      rw [show keyD (kD k1, q2).1 = some k1 from keyD_kD k1] at e
      exact ne (by injection e)
    · exact ih hr (fun p hp => hk p (List.mem_cons_of_mem _ hp)) z
/-- d[k] = v -/
def dPut (i : Nat) (dk dv : DTE) : DTS := fun D δ n => (∃ kvs, δ[i]? = some (some (.m kvs))) ∧ dv δ n fun x δ1 n1 => dk δ1 n1 fun y δ2 n2 => ∃ d z key kvs, x = .d d ∧ y = .d z ∧ keyD z = some key ∧ δ2[i]? = some (some (.m kvs)) ∧ kvs.length < 1000000 ∧ D.nx (δ2.set i (some (.m (putD kvs key d)))) n2
theorem tds_dput {i : Nat} {tk tv : TE} {dk dv : DTE} (hk : TD C tk dk) (hv : TD C tv dv) : TDS C (sDPut (tVar i) tk tv) (dPut i dk dv) := fun {F M S H σ δ n D DD} r ⟨⟨kvs0, e00⟩, hd⟩ hn _ _ _ => by
  obtain ⟨v0, ev, sh⟩ := r.sh i _ e00
  obtain ⟨a, ks0, ea, ha, ea0, _⟩ := sh
  subst ea
  refine hv r hd fun v x S1 H1 δ1 n1 g1 r1 s1 hd1 => ⟨.ref a, ev, hk r1 hd1 fun y z S2 H2 δ2 n2 g2 r2 s2 ⟨d, zd, key, kvs, ex, ez, ek, e2, hlen, hnx⟩ => ?_⟩
  subst ex ez
  obtain rfl := keyD_ok (ImR.of s2) ek
  obtain ⟨v2, ev2, sh2⟩ := r2.sh i _ e2
  obtain ⟨b, ks, eb, hb, eb0, nd, im⟩ := sh2
  rw [ev] at ev2
  cases ev2
  cases eb
  have lv := im.length
  have s1' : Im (S2 ++ F) H2 v d := ShV.stp (x := .d d) g2 r1.mf s1
  refine ⟨a, _, rfl, .k eb0 (Nat.lt_of_lt_of_le (show ks.length < 1000000 by omega) (by decide)), ?_⟩
  have gU : Nx (S2 ++ F) H2 (upd H2 a (.dK (L2.putK ks key v))) := .put (List.mem_append_left _ hb)
  exact hn _ _ _ _ _ ((g1.trans g2).trans (.put hb)) (r2.putL (o := .m (putD kvs key d)) e2 trivial ev hb trivial ⟨a, _, rfl, hb, upd_same, putK_nd nd, (im.nx gU).putD (Im.nx gU s1')⟩) hnx
/-! ### rings -/
def dMeth (W : WP) (de : DTE) (da : DTA) : DTE := fun δ n R => de δ n fun x δ1 n1 => (∃ h A, x = .ring h A) ∧ da δ1 n1 fun xs δ2 n2 => W (x :: xs) n2 fun y n3 => R y δ2 n3
theorem td_meth {m : Str} {W : WP} {te : TE} {ta : TA} {de : DTE} {da : DTA} (he : TD C te de) (ha : TDA C ta da) (hm : ∀ x y : V, List.lookup m [(("own_hours" : Str), x), (("own_arcs" : Str), y)] = none) : TD C (tMeth C m (spW C W) [] E0 te ta) (dMeth W de da) := fun {F M S H σ δ n R Q} r hd hq =>
  he r hd fun v x S1 H1 δ1 n1 g1 r1 s1 ⟨⟨h, A, ex⟩, hd1⟩ => by
  subst ex
  obtain ⟨a, ea, na, dx, d, e1, im⟩ := id s1
  refine ⟨a, dx, _, ea, e1, hm _ _, ha r1 hd1 fun vs xs S2 H2 δ2 n2 g2 r2 s2 hw => ?_⟩
  show spW C W (v :: (vs ++ [])) H2 Q E0
  rw [List.append_nil]
  refine ⟨S2 ++ F, M, _, n2, _, r2.al, fun a ha => List.mem_append_right _ (r2.mf a ha), r2.sp, .cons (ShV.stp g2 r1.mf s1) s2, hw, fun v x n' H' g sp sv hr => ?_⟩
  exact hq v x S2 H' δ2 n' ((g1.trans g2).trans (.of g fun _ h => h)) (r2.stp g r2.mf sp) sv hr
end
end RG

/-! the data layer: truth, chains, dicts made by comprehensions, slices; steps of the readings -/
namespace RG
open PySem PySem.Spec PyProof.Rows L2
section
variable {C : Addr}
/-- truth -/
def dTru (db : DTB) : DTT := fun δ n R => db δ n fun rv δ' n' => ∃ x, rv.at δ' = some (.d x) ∧ (∀ s, x = .str s → s.length ≤ sizeLine) ∧ R (truD x) δ' n'
theorem tru_im' {K : PySem.W.Frag} {U : List Addr} {H : Hp} {v : V} {x : PyData} (h : ImR U H v x) (hs : ∀ s, x = .str s → s.length ≤ sizeLine) : TruU K v H (truD x) := by
  have e1 : ∀ {vs : List V} {ds : List PyData}, ImAll U H vs ds → ds.isEmpty = vs.isEmpty := fun {vs ds} im => by cases im <;> rfl
  cases x with
  | none => cases h; exact Or.inl rfl
  | bool b => cases h; exact Or.inl rfl
  | int i => cases h; exact Or.inl rfl
  | str s => cases h; exact Or.inl ⟨hs s rfl, rfl⟩
  | list xs => obtain ⟨a, vs, hv, rd, im⟩ := h; subst hv; exact Or.inl (Or.inl ⟨vs, .inl rd, by rw [← e1 im]; rfl⟩)
  | tuple xs => obtain ⟨a, vs, hv, rd, im⟩ := h; subst hv; exact Or.inl (Or.inr (Or.inl ⟨vs, .inl rd, by rw [← e1 im]; rfl⟩))
  | dict ds => obtain ⟨a, ks, hv, rd, nd, im⟩ := h; subst hv; exact Or.inr ⟨a, ks, rfl, rd, by cases im <;> rfl⟩
theorem tdt_tru {K : PySem.W.Frag} {te : TE} {db : DTB} (h : TB C te db) : TDT C (tTruU K te) (dTru db) := fun r hd hq => h r hd fun v x S1 H1 δ1 n1 g1 r1 s1 ⟨d, e, hs, hk⟩ =>
  ⟨_, tru_im' (s1.use r1 e) hs, hq _ _ _ _ _ g1 r1 hk⟩
/-- a < b < c -/
def dChain (f f' : F2) (da db dc : DTB) : DTE := fun δ n R => da δ n fun ra δ1 n1 => db δ1 n1 fun rb δ2 n2 => ∃ a b, ra.at δ2 = some a ∧ rb.at δ2 = some b ∧ f a b fun c => ∃ k, c = .d (.bool k) ∧ if k = true then dc δ2 n2 fun rc δ3 n3 => ∃ b' c', rb.at δ3 = some b' ∧ rc.at δ3 = some c' ∧ f' b' c' fun d => R d δ3 n3 else R (.d (.bool false)) δ2 n2
theorem td_chain {r r' : R2} {f f' : F2} {ta tb tc : TE} {da db dc : DTB} (ha : TB C ta da) (hb : TB C tb db) (hc : TB C tc dc) (ok : BinOk C r f) (ok' : BinOk C r' f') : TD C (tChain r r' ta tb tc) (dChain f f' da db dc) := fun r h hq =>
  ha r h fun v x S1 H1 δ1 n1 g1 r1 s1 h => hb r1 h fun w y S2 H2 δ2 n2 g2 r2 s2 ⟨a, b, ea, eb, h⟩ =>
    ok ((RVok.stp g2 r1.mf s1).use r2 ea) (s2.use r2 eb) h fun u c sc ⟨k, ek, hk⟩ => by
      subst ek
      cases sc
      refine ⟨k, rfl, ?_⟩
      cases k with
      | true =>
        rw [if_pos rfl] at hk ⊢
        exact hc r2 hk fun z q S3 H3 δ3 n3 g3 r3 s3 ⟨b', c', eb', ec', h⟩ => ok' ((RVok.stp g3 r2.mf s2).use r3 eb') (s3.use r3 ec') h fun u d sd hk => hq _ _ _ _ _ _ ((g1.trans g2).trans g3) r3 sd hk
      | false =>
        rw [if_neg (by decide)] at hk ⊢
        exact hq _ _ _ _ _ _ (g1.trans g2) r2 (sh_bl false) hk
/-! ### dicts made by comprehensions -/
theorem dc_core' {F M S1 : List Addr} {H1 : Hp} {σ : L2.St} {δ1 : DSt} {n1 : Nat} {J : It} {ds : List PyData} {D : Addr} {g : TG} {ks vs : List Nat} {tt : TT} {tk tv : TE} {dg : DTG} {dt : DTT} {dk dv : DTE} {Qd : Hp → Prop} {R : DO → DSt → Nat → Prop} (r1 : Rel C F M S1 H1 σ δ1 n1) (ok : ItOk (S1 ++ F) H1 J ds) (nD : H1 D = none) (hg : TDG C g ks dg) (ht : TDT C tt dt) (hkk : TD C tk dk) (hvv : TD C tv dv) (hk : ∀ k ∈ ks, k ∈ vs)
    (P : Nat → List (PyData × PyData) → DSt → Nat → Prop) (p0 : P 0 [] (wipeD δ1 vs) n1)
    (ps : ∀ i d acc δ n, ds[i]? = some d → P i acc δ n → acc.length < 1000000 ∧ dg (.d d) δ n fun δ' n' => dt δ' n' fun b δ2 n2 => if b = true then dk δ2 n2 fun x δ3 n3 => dv δ3 n3 fun y δ4 n4 => ∃ z key d, x = .d z ∧ keyD z = some key ∧ y = .d d ∧ P (i + 1) (putD acc key d) (wipeD δ4 vs) n4 else P (i + 1) acc (wipeD δ2 vs) n2)
    (pe : ∀ acc δ n, P ds.length acc δ n → R (.m acc) (wipeD δ vs) n)
    (hq : ∀ p acc S' H' δ' n', Stp M S1 H1 S' H' → Rel C F M S' H' σ δ' n' → Rel C F M (p :: S') H' σ δ' n' → p ∉ S' → p ∉ F → NewO (p :: (S' ++ F)) H' p (.m acc) → R (.m acc) δ' n' → p = D → Qd H') :
    ∃ W : Nat → Nat → Hp → Prop, (∃ m, W 0 m (upd H1 D (.dK []))) ∧ ∀ i m H, W i m H →
      (J.stop i H ∧ Qd H) ∨ (J.go i H ∧ ∃ Nx : Hp → Prop, (∀ H', Nx H' → ∃ m', m' < m ∧ W (i + 1) m' H') ∧ ∀ x H', J.yld i H x H' → g x (wipe σ vs) H' fun σ2 H2 => wipe σ2 vs = wipe σ vs ∧ tt σ2 H2 fun b H3 =>
        if b = true then tk σ2 H3 fun y H4 => tv σ2 H4 fun z H5 => ∃ kvs k, y = kV k ∧ H5 D = some (.dK kvs) ∧ kvs.length < sizeLine ∧ Nx (upd H5 D (.dK (L2.putK kvs k z))) else Nx H3) := by
  have g0 : Nx [] H1 (upd H1 D (.dK [])) := .new nD
  have DF : D ∉ F := fun z => r1.al D (List.mem_append_right _ z) nD
  have DM : D ∉ M := fun z => DF (r1.mf D z)
  refine ⟨fun i m H' => m = ds.length - i ∧ i ≤ ds.length ∧ ∃ S' δ' n' acc vs', Nx (D :: (S1 ++ M)) H1 H' ∧ (∀ a ∈ S', a ∈ S1 ∨ H1 a = none) ∧ Rel C (D :: F) M S' H' (wipe σ vs) δ' n' ∧ H' D = some (.dK vs') ∧ (vs'.map (·.1)).Nodup ∧ ImKv (S' ++ D :: F) H' vs' acc ∧ P i acc δ' n', ?_, ?_⟩
  · exact ⟨ds.length, by simp, Nat.zero_le _, S1, wipeD δ1 vs, n1, [], [], g0.of0, fun _ h => .inl h, (r1.inF nD g0 (by rw [upd_same]; simp)).wiped (wipe_length _ _) (fun j hj => wipe_ne hj), upd_same, List.nodup_nil, .nil, p0⟩
  · rintro i m H' ⟨rfl, hi, S', δ', n', acc, vs', g', nw, r', eD, nd, im, p⟩
    have hMF : ∀ a ∈ S1 ++ M, a ∈ S1 ++ F := fun a ha => (List.mem_append.mp ha).elim (List.mem_append_left _) fun z => List.mem_append_right _ (r1.mf a z)
    have u1 : ∀ a ∈ S' ++ (S1 ++ D :: F), a ∈ S1 ++ F ∨ H1 a = none := fun a ha => by
      rcases List.mem_append.mp ha with z | z
      · exact (nw a z).imp (List.mem_append_left _) id
      · rcases List.mem_cons.mp (mem_sw.mp z) with e | z
        · exact .inr (by rw [e]; exact nD)
        · exact .inl z
    have u2 : Nx (S' ++ (S1 ++ D :: F)) H1 H' := g'.mono fun a ha => List.mem_append_right _ (mem_sw.mpr ((List.mem_cons.mp ha).elim (fun e => by rw [e]; exact List.mem_cons_self) fun z => List.mem_cons_of_mem _ (hMF a z)))
    have u3 : Al (S' ++ (S1 ++ D :: F)) H' := fun a ha => by
      rcases List.mem_append.mp ha with z | z
      · exact r'.al a (List.mem_append_left _ z)
      · rcases List.mem_append.mp z with z | z
        · exact g'.th a (r1.al a (List.mem_append_left _ z))
        · exact r'.al a (List.mem_append_right _ z)
    have u4 : ∀ a ∈ S' ++ D :: F, a ∈ S' ++ (S1 ++ D :: F) := fun a ha => (List.mem_append.mp ha).elim (List.mem_append_left _) fun z => List.mem_append_right _ (List.mem_append_right _ z)
    obtain ⟨k1, k2, k3⟩ := ok (S' ++ (S1 ++ D :: F)) H' u1 u2 u3
    by_cases hlt : i < ds.length
    · refine .inr ⟨k1 i hlt, fun H2 => ∃ S2 δ2 n2 acc2 vs2, Nx (D :: (S1 ++ M)) H1 H2 ∧ (∀ a ∈ S2, a ∈ S1 ∨ H1 a = none) ∧ Rel C (D :: F) M S2 H2 (wipe σ vs) δ2 n2 ∧ H2 D = some (.dK vs2) ∧ (vs2.map (·.1)).Nodup ∧ ImKv (S2 ++ D :: F) H2 vs2 acc2 ∧ P (i + 1) acc2 δ2 n2, fun H2 ⟨S2, δ2, n2, a2, v2, h⟩ => ⟨ds.length - (i + 1), by omega, rfl, hlt, S2, δ2, n2, a2, v2, h⟩, fun x H'' y => ?_⟩
      obtain ⟨gx, d, ed, ix⟩ := k3 i x H'' hlt y
      obtain ⟨hal, hp⟩ := ps i d acc δ' n' ed p
      have later : ∀ {S2 : List Addr} {H2 : Hp}, Stp M S' H'' S2 H2 → Nx (D :: (S1 ++ M)) H1 H2 ∧ (∀ a ∈ S2, a ∈ S1 ∨ H1 a = none) ∧ H2 D = some (.dK vs') ∧ ImKv (S2 ++ D :: F) H2 vs' acc := fun {S2 H2} g2 => by
        have gt : Stp M S' H' S2 H2 := (Stp.of0 gx).trans g2
        refine ⟨⟨fun c o hc e => ?_, fun c h => gt.nx.th c (g'.th c h)⟩, fun a ha => ?_, ?_, im.stp gt r'.mf⟩
        · refine gt.nx.kp c o (fun z => ?_) (g'.kp c o hc e)
          rcases List.mem_append.mp z with z | z
          · rcases nw c z with z | z
            · exact hc (List.mem_cons_of_mem _ (List.mem_append_left _ z))
            · rw [z] at e; cases e
          · exact hc (List.mem_cons_of_mem _ (List.mem_append_right _ z))
        · rcases gt.nw a ha with z | z
          · exact nw a z
          · exact .inr (g'.fresh z)
        · refine gt.nx.kp D _ (fun z => ?_) eD
          rcases List.mem_append.mp z with z | z
          · exact r'.dj D z List.mem_cons_self
          · exact DM z
      refine hg (r'.nx0 gx) (x := .d d) (Im.sub (fun a ha => .inl (u4 a ha)) _ ix) hp fun S2 H2 σ2 δ2 n2 g2 r2 o2 hp2 => ⟨wipe_only o2 hk, ?_⟩
      have ew := wipe_only o2 hk
      have wl : (wipe σ vs).length = σ2.length := by rw [wipe_length, ← wipe_length σ2 vs, ew, wipe_length]
      have back : ∀ j, j ∉ vs → (wipe σ vs)[j]? = σ2[j]? := fun j hj => by rw [← ew, wipe_ne hj]
      refine ht r2 hp2 fun b S3 H3 δ3 n3 g3 r3 hp3 => ?_
      cases b with
      | true =>
        rw [if_pos rfl] at hp3 ⊢
        refine hkk r3 hp3 fun v z S4 H4 δ4 n4 g4 r4 s4 hp4 => hvv r4 hp4 fun w y S5 H5 δ5 n5 g5 r5 s5 ⟨zd, key, yd, ez, ek, ey, hp5⟩ => ?_
        subst ez ey
        obtain rfl := keyD_ok (ImR.of s4) ek
        obtain ⟨a1, a2, a3, a4⟩ := later (((g2.trans g3).trans g4).trans g5)
        have gP : Nx [D] H5 (upd H5 D (.dK (L2.putK vs' key w))) := .put (by simp)
        have gP2 : Nx (S5 ++ D :: F) H5 (upd H5 D (.dK (L2.putK vs' key w))) := .put (by simp)
        have lv := im.length
        refine ⟨vs', key, rfl, a3, Nat.lt_of_lt_of_le (show vs'.length < 1000000 by omega) (by decide), S5, wipeD δ5 vs, n5, putD acc key yd, L2.putK vs' key w, a1.trans (gP.mono (by simp)), a2, ((r5.stp gP (by simp) fun s hs => (r5.sp s hs).nx gP (fun z => DM (by rw [← List.mem_singleton.mp z]; exact hs))).wiped wl back), upd_same, putK_nd nd, (a4.nx gP2).putD (Im.nx gP2 s5), hp5⟩
      | false =>
        rw [if_neg (by decide)] at hp3 ⊢
        obtain ⟨a1, a2, a3, a4⟩ := later (g2.trans g3)
        exact ⟨S3, wipeD δ3 vs, n3, acc, vs', a1, a2, r3.wiped wl back, a3, nd, a4, hp3⟩
    · have e : i = ds.length := by omega
      subst e
      have DS : D ∉ S' := fun z => r'.dj D z List.mem_cons_self
      have gS : Stp M S1 H1 S' H' := ⟨⟨fun c o hc e => g'.kp c o (fun z => (List.mem_cons.mp z).elim (ne_of_none e nD) hc) e, g'.th⟩, nw⟩
      have rw_ := r'.wiped (σ' := σ) (vs := vs) (by rw [wipe_length]) (fun j hj => (wipe_ne hj).symm)
      refine .inl ⟨k2 _ (Nat.le_refl _), hq D acc S' H' _ n' gS (rw_.outF r1.mf) (rw_.inS r1.mf DF) DS DF ⟨vs', eD, nd, ImKv.sub (fun a ha => .inl (mem_sw.mpr ha)) _ im⟩ (pe acc δ' n' p) rfl⟩
def dDc (di : DTI) (g : DTG) (dt : DTT) (dk dv : DTE) (vs : List Nat) : DTF := fun δ n R => di δ n fun ds δ1 n1 => ∃ P : Nat → List (PyData × PyData) → DSt → Nat → Prop, P 0 [] (wipeD δ1 vs) n1 ∧
  (∀ i d acc δ n, ds[i]? = some d → P i acc δ n → acc.length < 1000000 ∧ g (.d d) δ n fun δ' n' => dt δ' n' fun b δ2 n2 => if b = true then dk δ2 n2 fun x δ3 n3 => dv δ3 n3 fun y δ4 n4 => ∃ z key d, x = .d z ∧ keyD z = some key ∧ y = .d d ∧ P (i + 1) (putD acc key d) (wipeD δ4 vs) n4 else P (i + 1) acc (wipeD δ2 vs) n2) ∧
  ∀ acc δ n, P ds.length acc δ n → R (.m acc) (wipeD δ vs) n
theorem tdf_dc {wi : TI} {g : TG} {ks vs : List Nat} {tt : TT} {tk tv : TE} {di : DTI} {dg : DTG} {dt : DTT} {dk dv : DTE} (hi : TDI C wi di) (hg : TDG C g ks dg) (ht : TDT C tt dt) (h1 : TD C tk dk) (h2 : TD C tv dv) (hk : ∀ k ∈ ks, k ∈ vs) : TDF C (tDc wi g tt tk tv vs) (dDc di dg dt dk dv vs) := fun {F M S H σ δ n R Q} r hd hq =>
  hi r hd fun J ds S1 H1 δ1 n1 g1 r1 ok ⟨P, p0, ps, pe⟩ D nD => dc_core' (R := R) r1 ok nD hg ht h1 h2 hk P p0 ps pe fun p acc S' H' δ' n' gS ra rb h1 h2 no hR e => by
    subst e
    exact hq p (.m acc) S' H' δ' n' (g1.trans gS) ra rb (g1.nx.fresh nD) h1 h2 no hR
/-! ### steps -/
section
variable {δ : DSt} {n : Nat} {ra rb : RV} {a b x y : DV} {f : F2} {k : DV → Prop} {i j : Int} {s t : Str}
theorem w_op (h1 : ra.at δ = some a) (h2 : rb.at δ = some b) (h : f a b k) : ∃ a b, ra.at δ = some a ∧ rb.at δ = some b ∧ f a b k := ⟨a, b, h1, h2, h⟩
theorem w_un {f : F1} (h1 : ra.at δ = some a) (h : f a k) : ∃ a, ra.at δ = some a ∧ f a k := ⟨a, h1, h⟩
theorem w_tru {x : PyData} {R : Bool → Prop} (h1 : ra.at δ = some (.d x)) (h2 : ∀ s, x = .str s → s.length ≤ sizeLine) (h : R (truD x)) : ∃ x, ra.at δ = some (.d x) ∧ (∀ s, x = .str s → s.length ≤ sizeLine) ∧ R (truD x) := ⟨x, h1, h2, h⟩
theorem w_cb {f : FA} {rs : List RV} {xs : List DV} (h1 : atAll δ rs = some xs) (h : f xs k) : ∃ xs, atAll δ rs = some xs ∧ f xs k := ⟨xs, h1, h⟩
theorem w_nb {f : FN} {rs : List RV} {xs : List DV} {k : DO → Prop} (h1 : atAll δ rs = some xs) (h : f xs k) : ∃ xs, atAll δ rs = some xs ∧ f xs k := ⟨xs, h1, h⟩
theorem w_get {ds : List (PyData × PyData)} {x d : PyData} {key : Key} {R : DV → Prop} (h1 : ra.at δ = some (.d (.dict ds))) (h2 : rb.at δ = some (.d x)) (h3 : keyD x = some key) (h4 : lookK ds key = some d) (h : R (.d d)) :
    ∃ ds x key d, ra.at δ = some (.d (.dict ds)) ∧ rb.at δ = some (.d x) ∧ keyD x = some key ∧ lookK ds key = some d ∧ R (.d d) := ⟨ds, x, key, d, h1, h2, h3, h4, h⟩
theorem w_fII {g : Int → Int → Int} (h : k (.d (.int (g i j)))) : fII g (.d (.int i)) (.d (.int j)) k := ⟨i, j, rfl, rfl, h⟩
theorem w_fIB {g : Int → Int → Bool} (h : k (.d (.bool (g i j)))) : fIB g (.d (.int i)) (.d (.int j)) k := ⟨i, j, rfl, rfl, h⟩
theorem w_fIIc {P : Int → Int → Prop} {g : Int → Int → Int} (c : P i j) (h : k (.d (.int (g i j)))) : fIIc P g (.d (.int i)) (.d (.int j)) k := ⟨i, j, rfl, rfl, c, h⟩
theorem w_fSS (c : s.length + t.length ≤ sizeLine) (h : k (.d (.str (s ++ t)))) : fSS (.d (.str s)) (.d (.str t)) k := ⟨s, t, rfl, rfl, c, h⟩
theorem w_fSB {g : Str → Str → Bool} (h : k (.d (.bool (g s t)))) : fSB g (.d (.str s)) (.d (.str t)) k := ⟨s, t, rfl, rfl, h⟩
theorem w_fU {g : Int → Int} (h : k (.d (.int (g i)))) : fU g (.d (.int i)) k := ⟨i, rfl, h⟩
theorem w_fI1 {g : Int → Int} (h : k (.d (.int (g i)))) : fI1 g [.d (.int i)] k := ⟨i, rfl, h⟩
theorem w_fI2 {g : Int → Int → Int} (h : k (.d (.int (g i j)))) : fI2 g [.d (.int i), .d (.int j)] k := ⟨i, j, rfl, h⟩
theorem w_fIsB {neg p q : Bool} (h : k (.d (.bool (decide (p = q) != neg)))) : fIsB neg (.d (.bool p)) (.d (.bool q)) k := ⟨p, q, rfl, rfl, h⟩
theorem w_fIsN {neg : Bool} {x : PyData} (h : k (.d (.bool (isNoneD x != neg)))) : fIsN neg (.d x) (.d .none) k := ⟨x, rfl, rfl, h⟩
theorem w_fEq {x y : PyData} {r : Bool} (e : eqF x y = some r) (h : k (.d (.bool r))) : fEq (.d x) (.d y) k := ⟨x, y, r, rfl, rfl, e, h⟩
theorem w_fNe {x y : PyData} {r : Bool} (e : eqF x y = some r) (h : k (.d (.bool !r))) : fNe (.d x) (.d y) k := ⟨x, y, r, rfl, rfl, e, h⟩
theorem w_lenL {xs : List PyData} (h : k (.d (.int xs.length))) : fLen [.d (.list xs)] k := ⟨_, _, rfl, rfl, fun _ z => (by cases z), h⟩
theorem w_lenT {xs : List PyData} (h : k (.d (.int xs.length))) : fLen [.d (.tuple xs)] k := ⟨_, _, rfl, rfl, fun _ z => (by cases z), h⟩
theorem w_lenM {ds : List (PyData × PyData)} (h : k (.d (.int ds.length))) : fLen [.d (.dict ds)] k := ⟨_, _, rfl, rfl, fun _ z => (by cases z), h⟩
theorem w_bool {c : Bool} {R : Bool → Prop} (h : R c) : ∃ b, DV.d (.bool c) = DV.d (.bool b) ∧ R b := ⟨c, rfl, h⟩
theorem w_l0 {R : List PyData → Prop} (h : R []) : ∃ ds : List PyData, ([] : List DV) = ds.map DV.d ∧ ds.length ≤ 1000 ∧ R ds := ⟨[], rfl, by simp, h⟩
theorem w_l1 {R : List PyData → Prop} {p : PyData} (h : R [p]) : ∃ ds : List PyData, [DV.d p] = ds.map DV.d ∧ ds.length ≤ 1000 ∧ R ds := ⟨[p], rfl, by simp, h⟩
theorem w_l2 {R : List PyData → Prop} {p q : PyData} (h : R [p, q]) : ∃ ds : List PyData, [DV.d p, DV.d q] = ds.map DV.d ∧ ds.length ≤ 1000 ∧ R ds := ⟨[p, q], rfl, by simp, h⟩
theorem w_l3 {R : List PyData → Prop} {p q r : PyData} (h : R [p, q, r]) : ∃ ds : List PyData, [DV.d p, DV.d q, DV.d r] = ds.map DV.d ∧ ds.length ≤ 1000 ∧ R ds := ⟨[p, q, r], rfl, by simp, h⟩
theorem w_l4 {R : List PyData → Prop} {p q r u : PyData} (h : R [p, q, r, u]) : ∃ ds : List PyData, [DV.d p, DV.d q, DV.d r, DV.d u] = ds.map DV.d ∧ ds.length ≤ 1000 ∧ R ds := ⟨[p, q, r, u], rfl, by simp, h⟩
theorem w_l5 {R : List PyData → Prop} {p q r u w : PyData} (h : R [p, q, r, u, w]) : ∃ ds : List PyData, [DV.d p, DV.d q, DV.d r, DV.d u, DV.d w] = ds.map DV.d ∧ ds.length ≤ 1000 ∧ R ds := ⟨[p, q, r, u, w], rfl, by simp, h⟩
theorem w_inS {neg : Bool} {ss : List Str} (h : k (.d (.bool (if neg then !decide (s ∈ ss) else decide (s ∈ ss))))) : fIn neg (.d (.str s)) (.d (.list (ss.map .str))) k := ⟨_, _, rfl, .inl rfl, rfl, flat_strD ss, by rw [inD_str]; exact h⟩
theorem w_inI {neg : Bool} {ns : List Int} (h : k (.d (.bool (if neg then !decide (i ∈ ns) else decide (i ∈ ns))))) : fIn neg (.d (.int i)) (.d (.list (ns.map .int))) k := ⟨_, _, rfl, .inl rfl, rfl, flat_ints ns, by rw [inD_int]; exact h⟩
theorem w_din {neg : Bool} {x : PyData} {key : Key} {ds : List (PyData × PyData)} (e : keyD x = some key) (h : k (.d (.bool ((lookK ds key).isSome != neg)))) : fDin neg (.d x) (.d (.dict ds)) k := ⟨x, ds, key, rfl, rfl, e, h⟩
theorem w_ixT {ds : List PyData} {d : PyData} (e : atI ds i = some d) (h : k (.d d)) : fIxT (.d (.tuple ds)) (.d (.int i)) k := ⟨ds, i, d, rfl, rfl, e, h⟩
theorem w_ixL {ds : List PyData} {d : PyData} (e : atI ds i = some d) (h : k (.d d)) : fIxL (.d (.list ds)) (.d (.int i)) k := ⟨ds, i, d, rfl, rfl, e, h⟩
theorem w_all {bs : List Bool} {g : List Bool → Bool} (h : k (.d (.bool (g bs)))) : fBs g [.d (.list (bs.map .bool))] k := ⟨bs, rfl, h⟩
theorem w_is {x : PyData} {T : String} (hT : T ∈ six) (h : k (.d (.bool (isT x T)))) : fIs [.d x, .ty T] k := ⟨x, T, rfl, hT, h⟩
end
end
end RG

/-! the data layer: each reading, one step (printed by mkw.py) -/
namespace RG
open PySem PySem.Spec PyProof.Rows L2
theorem w_dB {de : DTE} {δ : DSt} {n : Nat} {R : RV → DSt → Nat → Prop} (h : de δ n fun x δ' n' => R (.val x) δ' n') : dB de δ n R := h
theorem w_dSlot {i : Nat} {δ : DSt} {n : Nat} {R : RV → DSt → Nat → Prop} (h : ∃ o, δ[i]? = some (some o) ∧ R (.slot i) δ n) : dSlot i δ n R := h
theorem w_dC {x : DV} {δ : DSt} {n : Nat} {R : DV → DSt → Nat → Prop} (h : R x δ n) : dC x δ n R := h
theorem w_dVar {i : Nat} {δ : DSt} {n : Nat} {R : DV → DSt → Nat → Prop} (h : (∃ x, δ[i]? = some (some (.v x)) ∧ R x δ n) ∨ ∃ o, δ[i]? = some (some o) ∧ o.own ∧ R o.val (δ.set i (some (.v o.val))) n) : dVar i δ n R := h
theorem w_dNil {δ : DSt} {n : Nat} {R : List DV → DSt → Nat → Prop} (h : R [] δ n) : dNil δ n R := h
theorem w_dCons {de : DTE} {da : DTA} {δ : DSt} {n : Nat} {R : List DV → DSt → Nat → Prop} (h : de δ n fun x δ1 n1 => da δ1 n1 fun xs δ2 n2 => R (x :: xs) δ2 n2) : dCons de da δ n R := h
theorem w_dBNil {δ : DSt} {n : Nat} {R : List RV → DSt → Nat → Prop} (h : R [] δ n) : dBNil δ n R := h
theorem w_dBCons {de : DTB} {da : DTBA} {δ : DSt} {n : Nat} {R : List RV → DSt → Nat → Prop} (h : de δ n fun x δ1 n1 => da δ1 n1 fun xs δ2 n2 => R (x :: xs) δ2 n2) : dBCons de da δ n R := h
theorem w_dOp {f : F2} {da db : DTB} {δ : DSt} {n : Nat} {R : DV → DSt → Nat → Prop} (h : da δ n fun ra δ1 n1 => db δ1 n1 fun rb δ2 n2 => ∃ a b, ra.at δ2 = some a ∧ rb.at δ2 = some b ∧ f a b fun c => R c δ2 n2) : dOp f da db δ n R := h
theorem w_dUn {f : F1} {da : DTB} {δ : DSt} {n : Nat} {R : DV → DSt → Nat → Prop} (h : da δ n fun ra δ1 n1 => ∃ a, ra.at δ1 = some a ∧ f a fun c => R c δ1 n1) : dUn f da δ n R := h
theorem w_dCB {f : FA} {da : DTBA} {δ : DSt} {n : Nat} {R : DV → DSt → Nat → Prop} (h : da δ n fun rs δ1 n1 => ∃ xs, atAll δ1 rs = some xs ∧ f xs fun c => R c δ1 n1) : dCB f da δ n R := h
theorem w_dNB {f : FN} {da : DTBA} {δ : DSt} {n : Nat} {R : DO → DSt → Nat → Prop} (h : da δ n fun rs δ1 n1 => ∃ xs, atAll δ1 rs = some xs ∧ f xs fun o => R o δ1 n1) : dNB f da δ n R := h
theorem w_dFrz {df : DTF} {δ : DSt} {n : Nat} {R : DV → DSt → Nat → Prop} (h : df δ n fun o δ' n' => R o.val δ' n') : dFrz df δ n R := h
theorem w_dLst {da : DTA} {δ : DSt} {n : Nat} {R : DO → DSt → Nat → Prop} (h : da δ n fun xs δ' n' => ∃ ds : List PyData, xs = ds.map DV.d ∧ ds.length ≤ 1000 ∧ R (.l ds) δ' n') : dLst da δ n R := h
theorem w_dTup {da : DTA} {δ : DSt} {n : Nat} {R : DV → DSt → Nat → Prop} (h : da δ n fun xs δ' n' => ∃ ds : List PyData, xs = ds.map DV.d ∧ ds.length ≤ 1000 ∧ R (.d (.tuple ds)) δ' n') : dTup da δ n R := h
theorem w_dNewM {δ : DSt} {n : Nat} {R : DO → DSt → Nat → Prop} (h : R (.m []) δ n) : dNewM δ n R := h
theorem w_dTest {de : DTE} {δ : DSt} {n : Nat} {R : Bool → DSt → Nat → Prop} (h : de δ n fun x δ' n' => ∃ b, x = .d (.bool b) ∧ R b δ' n') : dTest de δ n R := h
theorem w_dYes {δ : DSt} {n : Nat} {R : Bool → DSt → Nat → Prop} (h : R true δ n) : dYes δ n R := h
theorem w_dNot {dt : DTT} {δ : DSt} {n : Nat} {R : Bool → DSt → Nat → Prop} (h : dt δ n fun b δ' n' => R (!b) δ' n') : dNot dt δ n R := h
theorem w_dAnd {a b : DTT} {δ : DSt} {n : Nat} {R : Bool → DSt → Nat → Prop} (h : a δ n fun c δ' n' => if c = true then b δ' n' R else R false δ' n') : dAnd a b δ n R := h
theorem w_dOr {a b : DTT} {δ : DSt} {n : Nat} {R : Bool → DSt → Nat → Prop} (h : a δ n fun c δ' n' => if c = true then R true δ' n' else b δ' n' R) : dOr a b δ n R := h
theorem w_dAndV {a b : DTE} {δ : DSt} {n : Nat} {R : DV → DSt → Nat → Prop} (h : a δ n fun x δ' n' => ∃ c, x = .d (.bool c) ∧ if c = true then b δ' n' R else R (.d (.bool false)) δ' n') : dAndV a b δ n R := h
theorem w_dOrV {a b : DTE} {δ : DSt} {n : Nat} {R : DV → DSt → Nat → Prop} (h : a δ n fun x δ' n' => ∃ c, x = .d (.bool c) ∧ if c = true then R (.d (.bool true)) δ' n' else b δ' n' R) : dOrV a b δ n R := h
theorem w_dNotV {a : DTE} {δ : DSt} {n : Nat} {R : DV → DSt → Nat → Prop} (h : a δ n fun x δ' n' => ∃ c, x = .d (.bool c) ∧ R (.d (.bool !c)) δ' n') : dNotV a δ n R := h
theorem w_dIfE {c : DTT} {a b : DTE} {δ : DSt} {n : Nat} {R : DV → DSt → Nat → Prop} (h : c δ n fun z δ' n' => if z = true then a δ' n' R else b δ' n' R) : dIfE c a b δ n R := h
theorem w_dSeq {a b : DTS} {D : DEnds} {δ : DSt} {n : Nat} (h : a { D with nx := fun δ' n' => b D δ' n' } δ n) : dSeq a b D δ n := h
theorem w_dNext {D : DEnds} {δ : DSt} {n : Nat} (h : D.nx δ n) : dNext D δ n := h
theorem w_dSet {i : Nat} {de : DTE} {D : DEnds} {δ : DSt} {n : Nat} (h : de δ n fun x δ' n' => D.nx (δ'.set i (some (.v x))) n') : dSet i de D δ n := h
theorem w_dSetF {i : Nat} {df : DTF} {D : DEnds} {δ : DSt} {n : Nat} (h : df δ n fun o δ' n' => D.nx (δ'.set i (some o)) n') : dSetF i df D δ n := h
theorem w_dRet {de : DTE} {D : DEnds} {δ : DSt} {n : Nat} (h : de δ n fun x _ n' => D.rt x n') : dRet de D δ n := h
theorem w_dRetN {D : DEnds} {δ : DSt} {n : Nat} (h : D.rt (.d .none) n) : dRetN D δ n := h
theorem w_dDrop {de : DTE} {D : DEnds} {δ : DSt} {n : Nat} (h : de δ n fun _ δ' n' => D.nx δ' n') : dDrop de D δ n := h
theorem w_dIf {c : DTT} {a b : DTS} {D : DEnds} {δ : DSt} {n : Nat} (h : c δ n fun z δ' n' => if z = true then a D δ' n' else b D δ' n') : dIf c a b D δ n := h
theorem w_dCall {W : WP} {da : DTA} {δ : DSt} {n : Nat} {R : DV → DSt → Nat → Prop} (h : da δ n fun xs δ1 n1 => W xs n1 fun x n2 => R x δ1 n2) : dCall W da δ n R := h
theorem w_gN {i : Nat} {x : DV} {δ : DSt} {n : Nat} {R : DSt → Nat → Prop} (h : R (δ.set i (some (.v x))) n) : gN i x δ n R := h
theorem w_gsNil {ds : List PyData} {δ : DSt} {n : Nat} {R : DSt → Nat → Prop} (h : ds = [] ∧ R δ n) : gsNil ds δ n R := h
theorem w_gsCons {g : DTG} {t : DTGs} {ds : List PyData} {δ : DSt} {n : Nat} {R : DSt → Nat → Prop} (h : ∃ d r, ds = d :: r ∧ g (.d d) δ n fun δ' n' => t r δ' n' R) : gsCons g t ds δ n R := h
theorem w_gT {k : Nat} {t : DTGs} {x : DV} {δ : DSt} {n : Nat} {R : DSt → Nat → Prop} (h : ∃ ds, x = .d (.tuple ds) ∧ ds.length = k ∧ t ds δ n R) : gT k t x δ n R := h
theorem w_gQ {k : Nat} {t : DTGs} {x : DV} {δ : DSt} {n : Nat} {R : DSt → Nat → Prop} (h : ∃ ds, (x = .d (.tuple ds) ∨ x = .d (.list ds)) ∧ ds.length = k ∧ t ds δ n R) : gQ k t x δ n R := h
theorem w_dAsg {de : DTE} {g : DTG} {D : DEnds} {δ : DSt} {n : Nat} (h : de δ n fun x δ' n' => g x δ' n' D.nx) : dAsg de g D δ n := h
theorem w_dPar2 {i j : Nat} {da : DTA} {D : DEnds} {δ : DSt} {n : Nat} (h : da δ n fun xs δ' n' => ∃ x y, xs = [x, y] ∧ D.nx ((δ'.set i (some (.v x))).set j (some (.v y))) n') : dPar2 i j da D δ n := h
theorem w_dPar3 {i j l : Nat} {da : DTA} {D : DEnds} {δ : DSt} {n : Nat} (h : da δ n fun xs δ' n' => ∃ x y z, xs = [x, y, z] ∧ D.nx (((δ'.set i (some (.v x))).set j (some (.v y))).set l (some (.v z))) n') : dPar3 i j l da D δ n := h
theorem w_dGet {da db : DTB} {δ : DSt} {n : Nat} {R : DV → DSt → Nat → Prop} (h : da δ n fun ra δ1 n1 => db δ1 n1 fun rb δ2 n2 => ∃ ds x key d, ra.at δ2 = some (.d (.dict ds)) ∧ rb.at δ2 = some (.d x) ∧ keyD x = some key ∧ lookK ds key = some d ∧ R (.d d) δ2 n2) : dGet da db δ n R := h
theorem w_iL {de : DTE} {δ : DSt} {n : Nat} {R : List PyData → DSt → Nat → Prop} (h : de δ n fun x δ' n' => ∃ ds, x = .d (.list ds) ∧ R ds δ' n') : iL de δ n R := h
theorem w_iT {de : DTE} {δ : DSt} {n : Nat} {R : List PyData → DSt → Nat → Prop} (h : de δ n fun x δ' n' => ∃ ds, x = .d (.tuple ds) ∧ R ds δ' n') : iT de δ n R := h
theorem w_iR1 {da : DTBA} {δ : DSt} {n : Nat} {R : List PyData → DSt → Nat → Prop} (h : da δ n fun rs δ' n' => ∃ j : Int, atAll δ' rs = some [.d (.int j)] ∧ -(2 ^ 62) ≤ j ∧ j < 2 ^ 62 ∧ R (intsFrom 0 j.toNat) δ' n') : iR1 da δ n R := h
theorem w_iR2 {da : DTBA} {δ : DSt} {n : Nat} {R : List PyData → DSt → Nat → Prop} (h : da δ n fun rs δ' n' => ∃ i j : Int, atAll δ' rs = some [.d (.int i), .d (.int j)] ∧ (-(2 ^ 62) ≤ i ∧ i < 2 ^ 62 ∧ -(2 ^ 62) ≤ j ∧ j < 2 ^ 62) ∧ R (intsFrom i (j - i).toNat) δ' n') : iR2 da δ n R := h
theorem w_iE {da : DTA} {δ : DSt} {n : Nat} {R : List PyData → DSt → Nat → Prop} (h : da δ n fun xs δ' n' => ∃ ds, xs = [.d (.list ds)] ∧ R (enumF 0 ds) δ' n') : iE da δ n R := h
theorem w_iK {i : Nat} {δ : DSt} {n : Nat} {R : List PyData → DSt → Nat → Prop} (h : ∃ ds, ((δ[i]? = some (some (.v (.d (.dict ds)))) ∧ R (keysD ds) δ n) ∨ (δ[i]? = some (some (.m ds)) ∧ R (keysD ds) (δ.set i (some (.v (.d (.dict ds))))) n))) : iK i δ n R := h
theorem w_dIs2 {A B : String} {db : DTB} {δ : DSt} {n : Nat} {R : DV → DSt → Nat → Prop} (h : db δ n fun rv δ' n' => ∃ x, rv.at δ' = some (.d x) ∧ R (.d (.bool (isT x A || isT x B))) δ' n') : dIs2 A B db δ n R := h
theorem w_dIs3 {A B D : String} {db : DTB} {δ : DSt} {n : Nat} {R : DV → DSt → Nat → Prop} (h : db δ n fun rv δ' n' => ∃ x, rv.at δ' = some (.d x) ∧ R (.d (.bool (isT x A || (isT x B || isT x D)))) δ' n') : dIs3 A B D db δ n R := h
theorem w_dAppend {i : Nat} {de : DTE} {D : DEnds} {δ : DSt} {n : Nat} (h : (∃ o, δ[i]? = some (some o)) ∧ de δ n fun x δ1 n1 => ∃ y xs, x = .d y ∧ δ1[i]? = some (some (.l xs)) ∧ xs.length < 1000000 ∧ D.nx (δ1.set i (some (.l (xs ++ [y])))) n1) : dAppend i de D δ n := h
theorem w_dPut {i : Nat} {dk dv : DTE} {D : DEnds} {δ : DSt} {n : Nat} (h : (∃ kvs, δ[i]? = some (some (.m kvs))) ∧ dv δ n fun x δ1 n1 => dk δ1 n1 fun y δ2 n2 => ∃ d z key kvs, x = .d d ∧ y = .d z ∧ keyD z = some key ∧ δ2[i]? = some (some (.m kvs)) ∧ kvs.length < 1000000 ∧ D.nx (δ2.set i (some (.m (putD kvs key d)))) n2) : dPut i dk dv D δ n := h
theorem w_dMeth {W : WP} {de : DTE} {da : DTA} {δ : DSt} {n : Nat} {R : DV → DSt → Nat → Prop} (h : de δ n fun x δ1 n1 => (∃ h A, x = .ring h A) ∧ da δ1 n1 fun xs δ2 n2 => W (x :: xs) n2 fun y n3 => R y δ2 n3) : dMeth W de da δ n R := h
theorem w_dTru {db : DTB} {δ : DSt} {n : Nat} {R : Bool → DSt → Nat → Prop} (h : db δ n fun rv δ' n' => ∃ x, rv.at δ' = some (.d x) ∧ (∀ s, x = .str s → s.length ≤ sizeLine) ∧ R (truD x) δ' n') : dTru db δ n R := h
theorem w_dChain {f f' : F2} {da db dc : DTB} {δ : DSt} {n : Nat} {R : DV → DSt → Nat → Prop} (h : da δ n fun ra δ1 n1 => db δ1 n1 fun rb δ2 n2 => ∃ a b, ra.at δ2 = some a ∧ rb.at δ2 = some b ∧ f a b fun c => ∃ k, c = .d (.bool k) ∧ if k = true then dc δ2 n2 fun rc δ3 n3 => ∃ b' c', rb.at δ3 = some b' ∧ rc.at δ3 = some c' ∧ f' b' c' fun d => R d δ3 n3 else R (.d (.bool false)) δ2 n2) : dChain f f' da db dc δ n R := h
end RG

/-! the data layer: comprehensions and walks of the usual kinds -/
namespace RG
open PySem PySem.Spec PyProof.Rows L2
theorem wipeD_get {i : Nat} {δ : DSt} : ∀ {vs : List Nat}, (wipeD δ vs)[i]? = if i ∈ vs then (if i < δ.length then some none else none) else δ[i]?
  | [] => by simp [wipeD]
  | v :: vs => by
    unfold wipeD
    rw [List.getElem?_set, wipeD_length]
    by_cases e : v = i
    · subst e; simp
    · rw [if_neg e, wipeD_get (vs := vs)]
      have : (i ∈ v :: vs) ↔ i ∈ vs := ⟨fun h => (List.mem_cons.mp h).elim (fun z => absurd z.symm e) id, List.mem_cons_of_mem _⟩
      simp only [this]
theorem wipeD_idem {δ : DSt} {vs : List Nat} : wipeD (wipeD δ vs) vs = wipeD δ vs := by
  refine List.ext_getElem? fun i => ?_
  rw [wipeD_get, wipeD_get, wipeD_length]
  split <;> rfl
section
variable {dg : DTG} {dt : DTT} {de dk dv : DTE} {vs : List Nat} {δ1 : DSt} {n1 : Nat} {ds : List PyData}
theorem lc_yes {p : PyData → Bool} {f : PyData → PyData} {acc : List PyData} {i : Nat} {d : PyData} (e : acc = ((ds.take i).filter p).map f) (ed : ds[i]? = some d) (hp : p d = true) : acc ++ [f d] = ((ds.take (i + 1)).filter p).map f ∧ i + 1 ≤ ds.length := by
  refine ⟨?_, (List.getElem?_eq_some_iff.mp ed).1⟩
  rw [e, List.take_add_one, ed, List.filter_append, List.map_append]
  simp [hp]
theorem lc_no {p : PyData → Bool} {f : PyData → PyData} {acc : List PyData} {i : Nat} {d : PyData} (e : acc = ((ds.take i).filter p).map f) (ed : ds[i]? = some d) (hp : p d = false) : acc = ((ds.take (i + 1)).filter p).map f ∧ i + 1 ≤ ds.length := by
  refine ⟨?_, (List.getElem?_eq_some_iff.mp ed).1⟩
  rw [e, List.take_add_one, ed, List.filter_append, List.map_append]
  simp [hp]
/-- [f d for d in ds if p d], nothing drawn -/
theorem lc_map {R : DO → DSt → Nat → Prop} (p : PyData → Bool) (f : PyData → PyData) (hl : ds.length ≤ 1000000)
    (hs : ∀ (i : Nat) (d : PyData) (acc : List PyData), ds[i]? = some d → acc = ((ds.take i).filter p).map f → dg (.d d) (wipeD δ1 vs) n1 fun δ' n' => dt δ' n' fun b δ2 n2 => if b = true then de δ2 n2 fun x δ3 n3 => ∃ y, x = .d y ∧ (wipeD δ3 vs = wipeD δ1 vs ∧ n3 = n1 ∧ acc ++ [y] = ((ds.take (i + 1)).filter p).map f ∧ i + 1 ≤ ds.length)
      else (wipeD δ2 vs = wipeD δ1 vs ∧ n2 = n1 ∧ acc = ((ds.take (i + 1)).filter p).map f ∧ i + 1 ≤ ds.length))
    (hR : R (.l ((ds.filter p).map f)) (wipeD δ1 vs) n1) :
    ∃ P : Nat → List PyData → DSt → Nat → Prop, P 0 [] (wipeD δ1 vs) n1 ∧
      (∀ i d acc δ n, ds[i]? = some d → P i acc δ n → acc.length < 1000000 ∧ dg (.d d) δ n fun δ' n' => dt δ' n' fun b δ2 n2 => if b = true then de δ2 n2 fun x δ3 n3 => ∃ y, x = .d y ∧ P (i + 1) (acc ++ [y]) (wipeD δ3 vs) n3 else P (i + 1) acc (wipeD δ2 vs) n2) ∧
      ∀ acc δ n, P ds.length acc δ n → R (.l acc) (wipeD δ vs) n := by
  refine ⟨fun i acc δ n => δ = wipeD δ1 vs ∧ n = n1 ∧ acc = ((ds.take i).filter p).map f ∧ i ≤ ds.length, ⟨rfl, rfl, by simp, Nat.zero_le _⟩, ?_, ?_⟩
  · rintro i d acc δ n ed ⟨rfl, rfl, ha, hi⟩
    have hlt : i < ds.length := (List.getElem?_eq_some_iff.mp ed).1
    refine ⟨?_, hs i d acc ed ha⟩
    rw [ha, List.length_map]
    have := List.length_filter_le p (ds.take i)
    rw [List.length_take] at this
    omega
  · rintro acc δ n ⟨rfl, rfl, rfl, _⟩
    rw [wipeD_idem, List.take_length]
    exact hR
theorem filter_yes {α : Type} (xs : List α) : xs.filter (fun _ => true) = xs := by simp
theorem map_id_of {α β : Type} {xs : List α} {f g : α → β} (h : ∀ x ∈ xs, f x = g x) : xs.map f = xs.map g := List.map_congr_left h
/-- a walk that ends early or leaves the state as it was -/
theorem for_any {db : DTS} {D : DEnds} (hs : ∀ (i : Nat) (d : PyData), ds[i]? = some d → dg (.d d) δ1 n1 fun δ' n' => db { nx := fun δ n => δ = δ1 ∧ n = n1, rt := D.rt, bk := D.nx, ct := fun δ n => δ = δ1 ∧ n = n1 } δ' n') (hR : D.nx δ1 n1) :
    ∃ P : Nat → DSt → Nat → Prop, P 0 δ1 n1 ∧ (∀ i d δ n, ds[i]? = some d → P i δ n → dg (.d d) δ n fun δ' n' => db { nx := P (i + 1), rt := D.rt, bk := D.nx, ct := P (i + 1) } δ' n') ∧ ∀ δ n, P ds.length δ n → D.nx δ n :=
  ⟨fun _ δ n => δ = δ1 ∧ n = n1, ⟨rfl, rfl⟩, fun i d δ n ed ⟨e1, e2⟩ => by subst e1 e2; exact hs i d ed, fun δ n ⟨e1, e2⟩ => by subst e1 e2; exact hR⟩
/-- comprehensions, walks: unfolded -/
theorem w_dLc {di : DTI} {R : DO → DSt → Nat → Prop} {δ : DSt} {n : Nat} (h : di δ n fun ds δ1 n1 => ∃ P : Nat → List PyData → DSt → Nat → Prop, P 0 [] (wipeD δ1 vs) n1 ∧
  (∀ i d acc δ n, ds[i]? = some d → P i acc δ n → acc.length < 1000000 ∧ dg (.d d) δ n fun δ' n' => dt δ' n' fun b δ2 n2 => if b = true then de δ2 n2 fun x δ3 n3 => ∃ y, x = .d y ∧ P (i + 1) (acc ++ [y]) (wipeD δ3 vs) n3 else P (i + 1) acc (wipeD δ2 vs) n2) ∧
  ∀ acc δ n, P ds.length acc δ n → R (.l acc) (wipeD δ vs) n) : dLc di dg dt de vs δ n R := h
theorem w_dDc {di : DTI} {R : DO → DSt → Nat → Prop} {δ : DSt} {n : Nat} (h : di δ n fun ds δ1 n1 => ∃ P : Nat → List (PyData × PyData) → DSt → Nat → Prop, P 0 [] (wipeD δ1 vs) n1 ∧
  (∀ i d acc δ n, ds[i]? = some d → P i acc δ n → acc.length < 1000000 ∧ dg (.d d) δ n fun δ' n' => dt δ' n' fun b δ2 n2 => if b = true then dk δ2 n2 fun x δ3 n3 => dv δ3 n3 fun y δ4 n4 => ∃ z key d, x = .d z ∧ keyD z = some key ∧ y = .d d ∧ P (i + 1) (putD acc key d) (wipeD δ4 vs) n4 else P (i + 1) acc (wipeD δ2 vs) n2) ∧
  ∀ acc δ n, P ds.length acc δ n → R (.m acc) (wipeD δ vs) n) : dDc di dg dt dk dv vs δ n R := h
theorem w_dFor {di : DTI} {db : DTS} {D : DEnds} {δ : DSt} {n : Nat} (h : di δ n fun ds δ1 n1 => ∃ P : Nat → DSt → Nat → Prop, P 0 δ1 n1 ∧
  (∀ i d δ n, ds[i]? = some d → P i δ n → dg (.d d) δ n fun δ' n' => db { nx := P (i + 1), rt := D.rt, bk := D.nx, ct := P (i + 1) } δ' n') ∧ ∀ δ n, P ds.length δ n → D.nx δ n) : dFor di dg db D δ n := h
theorem w_lst {ds : List PyData} {R : List PyData → Prop} (h : R ds) : ∃ es, DV.d (.list ds) = .d (.list es) ∧ R es := ⟨ds, rfl, h⟩
theorem w_tupD {ds : List PyData} {R : List PyData → Prop} (h : R ds) : ∃ es, DV.d (.tuple ds) = .d (.tuple es) ∧ R es := ⟨ds, rfl, h⟩
theorem w_lenR {h : Int} {A : Arcs} {k : DV → Prop} (hl : A.length ≤ 40) (hk : k (.d (.int A.length))) : fLenR [.ring h A] k := ⟨h, A, rfl, hl, hk⟩
theorem w_ring {h : Int} {A : Arcs} {B : Prop} (hb : B) : (∃ h' A', DV.ring h A = .ring h' A') ∧ B := ⟨⟨h, A, rfl⟩, hb⟩
theorem w_iK1 {i : Nat} {δ : DSt} {n : Nat} {ds : List (PyData × PyData)} {R : List PyData → DSt → Nat → Prop} (e : δ[i]? = some (some (.v (.d (.dict ds))))) (h : R (keysD ds) δ n) : iK i δ n R := ⟨ds, .inl ⟨e, h⟩⟩
theorem w_iK2 {i : Nat} {δ : DSt} {n : Nat} {ds : List (PyData × PyData)} {R : List PyData → DSt → Nat → Prop} (e : δ[i]? = some (some (.m ds))) (h : R (keysD ds) (δ.set i (some (.v (.d (.dict ds))))) n) : iK i δ n R := ⟨ds, .inr ⟨e, h⟩⟩
theorem w_rng1 {δ : DSt} {rs : List RV} {j : Int} {R : List PyData → Prop} (e : atAll δ rs = some [.d (.int j)]) (h1 : -(2 ^ 62) ≤ j) (h2 : j < 2 ^ 62) (h : R (intsFrom 0 j.toNat)) : ∃ j : Int, atAll δ rs = some [.d (.int j)] ∧ -(2 ^ 62) ≤ j ∧ j < 2 ^ 62 ∧ R (intsFrom 0 j.toNat) := ⟨j, e, h1, h2, h⟩
theorem w_enum {ds : List PyData} {R : List PyData → Prop} (h : R (enumF 0 ds)) : ∃ es, [DV.d (.list ds)] = [.d (.list es)] ∧ R (enumF 0 es) := ⟨ds, rfl, h⟩
theorem w_gTup {k : Nat} {t : DTGs} {ds : List PyData} {δ : DSt} {n : Nat} {R : DSt → Nat → Prop} (hl : ds.length = k) (h : t ds δ n R) : gT k t (.d (.tuple ds)) δ n R := ⟨ds, rfl, hl, h⟩
theorem w_gsC {g : DTG} {t : DTGs} {d : PyData} {r : List PyData} {δ : DSt} {n : Nat} {R : DSt → Nat → Prop} (h : g (.d d) δ n fun δ' n' => t r δ' n' R) : gsCons g t (d :: r) δ n R := ⟨d, r, rfl, h⟩
theorem w_gsN {δ : DSt} {n : Nat} {R : DSt → Nat → Prop} (h : R δ n) : gsNil [] δ n R := ⟨rfl, h⟩
theorem w_app {i : Nat} {de : DTE} {D : DEnds} {δ : DSt} {n : Nat} {xs0 : List PyData} (e : δ[i]? = some (some (.l xs0))) (h : de δ n fun x δ1 n1 => ∃ y xs, x = .d y ∧ δ1[i]? = some (some (.l xs)) ∧ xs.length < 1000000 ∧ D.nx (δ1.set i (some (.l (xs ++ [y])))) n1) : (∃ xs, δ[i]? = some (some (.l xs))) ∧ dAppend i de D δ n := ⟨⟨xs0, e⟩, ⟨_, e⟩, h⟩
end
end RG

/-! the data layer: while, changes of a number, list + list, parts of lists -/
namespace RG
open PySem PySem.Spec PyProof.Rows L2
section
variable {C : Addr}
def dWhile (dt : DTT) (db : DTS) : DTS := fun D δ n => ∃ P : Nat → DSt → Nat → Prop, (∃ m, P m δ n) ∧ ∀ m δ n, P m δ n → dt δ n fun b δ1 n1 => if b = true then
  db { nx := fun δ2 n2 => ∃ m', m' < m ∧ P m' δ2 n2, rt := D.rt, bk := D.nx, ct := fun δ2 n2 => ∃ m', m' < m ∧ P m' δ2 n2 } δ1 n1 else D.nx δ1 n1
theorem tds_while {tt : TT} {tb : TS} {dt : DTT} {db : DTS} (ht : TDT C tt dt) (hb : TDS C tb db) : TDS C (tWhile tt tb) (dWhile dt db) := fun {F M S H σ δ n D DD} r ⟨P, ⟨m0, p0⟩, ps⟩ hn hr _ _ => by
  refine ⟨fun m σ' H' => ∃ S' δ' n', Stp M S H S' H' ∧ Rel C F M S' H' σ' δ' n' ∧ P m δ' n', ⟨m0, S, δ, n, .refl, r, p0⟩, ?_⟩
  rintro m σ' H' ⟨S', δ', n', g', r', p⟩
  refine ht r' (ps m δ' n' p) fun b S1 H1 δ1 n1 g1 r1 hk => ?_
  cases b with
  | false => exact hn _ _ _ _ _ (g'.trans g1) r1 hk
  | true =>
    refine ⟨fun σ2 H2 => ∃ m', m' < m ∧ ∃ S2 δ2 n2, Stp M S H S2 H2 ∧ Rel C F M S2 H2 σ2 δ2 n2 ∧ P m' δ2 n2, fun σ2 H2 ⟨m', h1, h2⟩ => ⟨m', h1, h2⟩, ?_⟩
    have gg := g'.trans g1
    exact hb r1 hk (fun S3 H3 σ3 δ3 n3 g3 r3 ⟨m', h1, h2⟩ => ⟨m', h1, S3, δ3, n3, gg.trans g3, r3, h2⟩) (fun v x S3 H3 n3 g3 => hr v x S3 H3 n3 (gg.trans g3)) (fun S3 H3 σ3 δ3 n3 g3 r3 hk => hn S3 H3 σ3 δ3 n3 (gg.trans g3) r3 hk) (fun S3 H3 σ3 δ3 n3 g3 r3 ⟨m', h1, h2⟩ => ⟨m', h1, S3, δ3, n3, gg.trans g3, r3, h2⟩)
/-- x += a number -/
def dAug (i : Nat) (de : DTE) (f : Int → Int → Int) : DTS := fun D δ n => ∃ a, δ[i]? = some (some (.v (.d (.int a)))) ∧ de δ n fun x δ' n' => ∃ b, x = .d (.int b) ∧ D.nx (δ'.set i (some (.v (.d (.int (f a b)))))) n'
theorem tds_aug {i : Nat} {te : TE} {de : DTE} {f : Int → Int → Int} (h : TD C te de) : TDS C (tAug i te (ipI f)) (dAug i de f) := fun {F M S H σ δ n D DD} r ⟨a, e, hd⟩ hn _ _ _ => by
  obtain ⟨v, ev, sv⟩ := r.sh i _ e
  cases (show Im _ _ v (.int a) from sv)
  refine ⟨_, ev, h r hd fun w x S1 H1 δ1 n1 g1 r1 s1 ⟨b, eb, hk⟩ => ?_⟩
  subst eb
  cases (show Im _ _ w (.int b) from s1)
  exact ⟨a, b, rfl, rfl, hn _ _ _ _ _ g1 (r1.set (sh_int _)) hk⟩
/-- list + list, any lists -/
def rCatR (K : PySem.W.Frag) : R2 := fun x y H Q => ∃ l b xs zs, x = .ref l ∧ y = .ref b ∧ SqL K H l xs ∧ SqL K H b zs ∧ xs.length + zs.length ≤ sizeLine ∧ ∀ p, H p = none → Q (.ref p) (upd H p (.lst (xs ++ zs)))
theorem op_catR {X : Cx} : OpR X (binaryOp .Add) (rCatR X.K) := by
  intro pins s σ H x y v u Q I rx ry h
  obtain ⟨l, b, xs, zs, rfl, rfl, hH, hB, hz, q⟩ := h
  cases rx
  cases ry
  obtain ⟨its, r, pl, z⟩ := I.list hH
  obtain ⟨its2, r2, pl2, z2⟩ := I.list hB
  obtain ⟨⟨cls, dd, data, sl⟩, n, ho, hc, hdd, hd⟩ := id pl
  obtain ⟨⟨cls2, dd2, data2, sl2⟩, n2, ho2, hc2, hdd2, hd2⟩ := id pl2
  simp only at hc hd hc2 hd2 hdd hdd2
  subst hc hd hc2 hd2 hdd hdd2
  have hl := r.length
  have hl2 := r2.length
  have e : its.toArray ++ its2.toArray = (its ++ its2).toArray := by simp
  refine concat_meets ⟨_, ho, rfl⟩ ⟨_, ho2, rfl⟩ noFill_list_add seq_list_add PySem.F.slot_list_add PySem.F.entry_list_add (PySem.F.args_list_add_2 _ _) (list_addW l b its.toArray its2.toArray n n2 none none sl sl2 (by rw [List.size_toArray, List.size_toArray]; omega)) ⟨ho, ho2, ?_⟩
  rw [e]
  exact ⟨.ref _, _, I.lnew (t' := s.toks) (r.append r2) (by rw [List.length_append]; omega), rfl, q _ I.fresh⟩
theorem kcatR {X : Cx} (K : PySem.W.Frag) (hK : X.K = K := by rfl) : OpR X (binaryOp .Add) (rCatR K) := by subst hK; exact op_catR
def dCat (da db : DTB) : DTF := fun δ n R => da δ n fun ra δ1 n1 => db δ1 n1 fun rb δ2 n2 => ∃ xs ys, ra.at δ2 = some (.d (.list xs)) ∧ rb.at δ2 = some (.d (.list ys)) ∧ xs.length + ys.length ≤ 1000000 ∧ R (.l (xs ++ ys)) δ2 n2
theorem tdf_cat {K : PySem.W.Frag} {ta tb : TE} {da db : DTB} (ha : TB C ta da) (hb : TB C tb db) : TDF C (tOp (rCatR K) ta tb) (dCat da db) := fun r h hq =>
  ha r h fun v x S1 H1 δ1 n1 g1 r1 s1 h => hb r1 h fun w y S2 H2 δ2 n2 g2 r2 s2 ⟨xs, ys, ea, eb, hl, hk⟩ => by
    obtain ⟨a, vs, rfl, rd, im⟩ := (RVok.stp g2 r.mf s1).use r2 ea
    obtain ⟨b, ws, rfl, rd2, im2⟩ := s2.use r2 eb
    refine ⟨a, b, vs, ws, rfl, rfl, .inl rd, .inl rd2, Nat.le_trans (by rw [im.length, im2.length]; exact hl) (by decide), fun p np => ?_⟩
    exact hq p (.l (xs ++ ys)) S2 _ δ2 n2 ((g1.trans g2).trans (.of0 (.new np))) (r2.nx0 (.new np)) (r2.new np (.new np) (by rw [upd_same]; simp)) ((g1.trans g2).nx.fresh np) (fun z => r2.fr np (List.mem_append_left _ z)) (fun z => r2.fr np (List.mem_append_right _ z)) ⟨vs ++ ws, upd_same, (im.append im2).apart np⟩ hk
/-! ### parts of lists -/
abbrev DTO := DSt → Nat → (Option Int → DSt → Nat → Prop) → Prop
def TDO (C : Addr) (t : TO) (dt : DTO) : Prop := ∀ {F M S : List Addr} {H : Hp} {σ : L2.St} {δ : DSt} {n : Nat} {R : Option Int → DSt → Nat → Prop} {Q : Option Int → Hp → Prop}, Rel C F M S H σ δ n → dt δ n R →
  (∀ b S' H' δ' n', Stp M S H S' H' → Rel C F M S' H' σ δ' n' → R b δ' n' → Q b H') → t σ H Q
def dNoPart : DTO := fun δ n R => R none δ n
theorem tdo_none : TDO C tNoPart dNoPart := fun r hd hq => hq _ _ _ _ _ .refl r hd
def dPart (de : DTE) : DTO := fun δ n R => de δ n fun x δ' n' => ∃ i, x = .d (.int i) ∧ R (some i) δ' n'
theorem tdo_some {te : TE} {de : DTE} (h : TD C te de) : TDO C (tPart te) (dPart de) := fun r hd hq => h r hd fun v x S1 H1 δ1 n1 g1 r1 s1 ⟨i, e, hk⟩ => by
  subst e
  cases (show Im _ _ v (.int i) from s1)
  exact ⟨i, rfl, hq _ _ _ _ _ g1 r1 hk⟩
def cutD (xs : List PyData) (lo hi : Option Int) : List PyData := (xs.drop (HT.sIx xs.length 0 lo)).take (HT.sIx xs.length xs.length hi - HT.sIx xs.length 0 lo)
theorem ImAll.tak {U : List Addr} {H : Hp} : ∀ (k : Nat) {vs : List V} {ds : List PyData}, ImAll U H vs ds → ImAll U H (vs.take k) (ds.take k)
  | 0, _, _, _ => by rw [List.take_zero, List.take_zero]; exact .nil
  | k + 1, _, _, .nil => .nil
  | k + 1, _, _, .cons a t => .cons a (ImAll.tak k t)
theorem ImAll.cut {U : List Addr} {H : Hp} {vs : List V} {ds : List PyData} {lo hi : Option Int} (im : ImAll U H vs ds) : ImAll U H (cutV vs lo hi) (cutD ds lo hi) := by
  unfold cutV cutD
  rw [im.length]
  exact ImAll.tak _ (im.drop _)
def dSl (db : DTB) (dl dh : DTO) : DTF := fun δ n R => db δ n fun rv δ1 n1 => dl δ1 n1 fun l δ2 n2 => dh δ2 n2 fun h δ3 n3 => ∃ xs, rv.at δ3 = some (.d (.list xs)) ∧ R (.l (cutD xs l h)) δ3 n3
theorem tdf_slL {K : PySem.W.Frag} {te : TE} {tl th : TO} {db : DTB} {dl dh : DTO} (he : TB C te db) (hl : TDO C tl dl) (hh : TDO C th dh) : TDF C (L2.tSl (rSlL K) te tl th) (dSl db dl dh) := fun r h hq =>
  he r h fun v rv S1 H1 δ1 n1 g1 r1 s1 h => hl r1 h fun l S2 H2 δ2 n2 g2 r2 h => hh r2 h fun u S3 H3 δ3 n3 g3 r3 ⟨xs, ea, hk⟩ => by
    have gg := g2.trans g3
    obtain ⟨a, vs, rfl, rd, im⟩ := (RVok.stp gg r.mf s1).use r3 ea
    refine ⟨a, vs, rfl, .inl rd, fun p np => ?_⟩
    exact hq p (.l (cutD xs l u)) S3 _ δ3 n3 ((g1.trans gg).trans (.of0 (.new np))) (r3.nx0 (.new np)) (r3.new np (.new np) (by rw [upd_same]; simp)) ((g1.trans gg).nx.fresh np) (fun z => r3.fr np (List.mem_append_left _ z)) (fun z => r3.fr np (List.mem_append_right _ z)) ⟨_, upd_same, im.cut.apart np⟩ hk
end
end RG

/-! drifts, plain: residue classes that meet two by two meet all at once -/
namespace RG
open PySem PySem.Spec PyProof.Rows L2
/-! ### residue classes -/
theorem bez : ∀ (b a : Nat), ∃ u v : Int, u * a + v * b = Nat.gcd a b
  | 0, a => ⟨1, 0, by simp⟩
  | b + 1, a => by
    have hlt : a % (b + 1) < b + 1 := Nat.mod_lt _ (Nat.succ_pos b)
    obtain ⟨u, v, e⟩ := bez (a % (b + 1)) (b + 1)
    refine ⟨v, u - v * ((a / (b + 1) : Nat) : Int), ?_⟩
    rw [Nat.gcd_comm a (b + 1), Nat.gcd_rec (b + 1) a, Nat.gcd_comm (a % (b+1)) (b+1), ← e]
    have hd : ((a % (b + 1) : Nat) : Int) = (a : Int) - ((a / (b + 1) : Nat) : Int) * ((b + 1 : Nat) : Int) := by
      have := Nat.mod_add_div a (b + 1)
      have h2 : ((a % (b + 1) + (b + 1) * (a / (b + 1)) : Nat) : Int) = (a : Int) := by rw [this]
      rw [Int.natCast_add, Int.natCast_mul] at h2
      rw [Int.mul_comm ((a / (b + 1) : Nat) : Int)]
      omega
    rw [hd, Int.sub_mul, Int.mul_sub, Int.mul_assoc]
    omega
  termination_by b => b
def InC (x : Int) (c : Nat × Int) : Prop := (c.1 : Int) ∣ x - c.2
theorem helly3 {a b c : Nat} {ta tb tc p q r : Int} (pa : InC p (a, ta)) (pb : InC p (b, tb)) (qa : InC q (a, ta)) (qc : InC q (c, tc)) (rb : InC r (b, tb)) (rc : InC r (c, tc)) (hb : 0 < b) :
    ∃ x, InC x (a, ta) ∧ InC x (b, tb) ∧ InC x (c, tc) := by
  unfold InC at *
  simp only at *
  obtain ⟨k, hk⟩ : (b : Int) ∣ p - r := by have := Int.dvd_sub pb rb; rwa [show p - tb - (r - tb) = p - r by omega] at this
  obtain ⟨l, hl⟩ : (c : Int) ∣ q - r := by have := Int.dvd_sub qc rc; rwa [show q - tc - (r - tc) = q - r by omega] at this
  obtain ⟨s, hs⟩ : (a : Int) ∣ p - q := by have := Int.dvd_sub pa qa; rwa [show p - ta - (q - ta) = p - q by omega] at this
  obtain ⟨u, v, e⟩ := bez c b
  obtain ⟨b', eb⟩ := Nat.gcd_dvd_left b c
  obtain ⟨c', ec⟩ := Nat.gcd_dvd_right b c
  have g0 : 0 < Nat.gcd b c := Nat.gcd_pos_of_pos_left _ hb
  generalize Nat.gcd b c = g at *
  have eb2 : (b : Int) = g * b' := by rw [← Int.natCast_mul, ← eb]
  have ec2 : (c : Int) = g * c' := by rw [← Int.natCast_mul, ← ec]
  have e1 : u * b' + v * c' = 1 := by
    have e' : u * ((g : Int) * b') + v * ((g : Int) * c') = g := by rw [← eb2, ← ec2]; exact e
    have : (g : Int) * (u * b' + v * c') = g * 1 := by
      rw [Int.mul_one, Int.mul_add, Int.mul_left_comm (g : Int) u, Int.mul_left_comm (g : Int) v]
      exact e'
    exact Int.eq_of_mul_eq_mul_left (by omega) this
  refine ⟨r + ((q - r) * (u * b') + (p - r) * (v * c')), ?_, ?_, ?_⟩
  · have : r + ((q - r) * (u * b') + (p - r) * (v * c')) - ta = (p - ta) - a * (s * (u * b')) := by
      have h1 : (p - r) * (v * c') = (p - r) - (p - r) * (u * b') := by
        have : v * c' = 1 - u * b' := by omega
        rw [this, Int.mul_sub, Int.mul_one]
      have h2 : (p - r) * (u * b') = (q - r) * (u * b') + a * (s * (u * b')) := by
        have : p - r = (q - r) + a * s := by omega
        rw [this, Int.add_mul, Int.mul_assoc (a : Int) s]
      omega
    rw [this]
    exact Int.dvd_sub pa ⟨_, rfl⟩
  · have : r + ((q - r) * (u * b') + (p - r) * (v * c')) - tb = (r - tb) + ((q - r) * (u * b') + (p - r) * (v * c')) := by omega
    rw [this]
    refine Int.dvd_add rb (Int.dvd_add ?_ ⟨k * (v * c'), by rw [hk, Int.mul_assoc]⟩)
    refine ⟨c' * l * u, ?_⟩
    rw [hl, ec2, eb2]
    simp only [Int.mul_assoc, Int.mul_comm, Int.mul_left_comm]
  · have : r + ((q - r) * (u * b') + (p - r) * (v * c')) - tc = (r - tc) + ((q - r) * (u * b') + (p - r) * (v * c')) := by omega
    rw [this]
    refine Int.dvd_add rc (Int.dvd_add ⟨l * (u * b'), by rw [hl, Int.mul_assoc]⟩ ?_)
    refine ⟨b' * k * v, ?_⟩
    rw [hk, ec2, eb2]
    simp only [Int.mul_assoc, Int.mul_comm, Int.mul_left_comm]
theorem lcm_dvdI {a b : Nat} {z : Int} (h1 : (a : Int) ∣ z) (h2 : (b : Int) ∣ z) : ((Nat.lcm a b : Nat) : Int) ∣ z := by
  rw [Int.ofNat_dvd_left] at *
  exact Nat.lcm_dvd h1 h2
theorem helly : ∀ (cs : List (Nat × Int)) (c0 : Nat × Int), (∀ c ∈ c0 :: cs, 0 < c.1) → (∀ c ∈ c0 :: cs, ∀ d ∈ c0 :: cs, ∃ x, InC x c ∧ InC x d) → ∃ x, ∀ c ∈ c0 :: cs, InC x c
  | [], c0, _, h => by
    obtain ⟨x, hx, _⟩ := h c0 (by simp) c0 (by simp)
    exact ⟨x, by simpa using hx⟩
  | c1 :: r, c0, hp, h => by
    obtain ⟨p, p0, p1⟩ := h c0 (by simp) c1 (by simp)
    have l0 : 0 < c0.1 := hp c0 (by simp)
    have l1 : 0 < c1.1 := hp c1 (by simp)
    have back : ∀ {x}, InC x (Nat.lcm c0.1 c1.1, p) → InC x c0 ∧ InC x c1 := fun {x} hx => by
      have hx : ((Nat.lcm c0.1 c1.1 : Nat) : Int) ∣ x - p := hx
      have d0 : ((c0.1 : Nat) : Int) ∣ x - p := Int.dvd_trans (Int.natCast_dvd_natCast.mpr (Nat.dvd_lcm_left _ _)) hx
      have d1 : ((c1.1 : Nat) : Int) ∣ x - p := Int.dvd_trans (Int.natCast_dvd_natCast.mpr (Nat.dvd_lcm_right _ _)) hx
      have p0 : (c0.1 : Int) ∣ p - c0.2 := p0
      have p1 : (c1.1 : Int) ∣ p - c1.2 := p1
      refine ⟨?_, ?_⟩
      · have := Int.dvd_add d0 p0; rwa [show x - p + (p - c0.2) = x - c0.2 by omega] at this
      · have := Int.dvd_add d1 p1; rwa [show x - p + (p - c1.2) = x - c1.2 by omega] at this
    have self : InC p (Nat.lcm c0.1 c1.1, p) := by unfold InC; simp
    have cross : ∀ d ∈ r, ∃ x, InC x (Nat.lcm c0.1 c1.1, p) ∧ InC x d := fun d hd => by
      obtain ⟨q, q0, qd⟩ := h c0 (by simp) d (by simp [hd])
      obtain ⟨s, s1, sd⟩ := h c1 (by simp) d (by simp [hd])
      obtain ⟨x, x0, x1, xd⟩ := helly3 (a := c0.1) (ta := c0.2) (b := c1.1) (tb := c1.2) (c := d.1) (tc := d.2) p0 p1 q0 qd s1 sd l1
      refine ⟨x, ?_, xd⟩
      refine lcm_dvdI ?_ ?_
      · have x0 : (c0.1 : Int) ∣ x - c0.2 := x0
        have p0 : (c0.1 : Int) ∣ p - c0.2 := p0
        have := Int.dvd_sub x0 p0; rwa [show x - c0.2 - (p - c0.2) = x - p by omega] at this
      · have x1 : (c1.1 : Int) ∣ x - c1.2 := x1
        have p1 : (c1.1 : Int) ∣ p - c1.2 := p1
        have := Int.dvd_sub x1 p1; rwa [show x - c1.2 - (p - c1.2) = x - p by omega] at this
    obtain ⟨x, hx⟩ := helly r (Nat.lcm c0.1 c1.1, p) (fun c hc => (List.mem_cons.mp hc).elim (fun e => by rw [e]; exact Nat.lcm_pos l0 l1) fun hc => hp c (by simp [hc])) (fun c hc d hd => by
      rcases List.mem_cons.mp hc with e | hc <;> rcases List.mem_cons.mp hd with e2 | hd
      · subst e e2; exact ⟨p, self, self⟩
      · subst e; exact cross d hd
      · subst e2; obtain ⟨x, h1, h2⟩ := cross c hc; exact ⟨x, h2, h1⟩
      · exact h c (by simp [hc]) d (by simp [hd]))
    obtain ⟨b0, b1⟩ := back (hx _ (by simp))
    exact ⟨x, fun c hc => by
      rcases List.mem_cons.mp hc with e | hc
      · rw [e]; exact b0
      · rcases List.mem_cons.mp hc with e | hc
        · rw [e]; exact b1
        · exact hx c (by simp [hc])⟩
/-! ### days as a residue class -/
theorem dvd_cls {h : Int} (hh : 1 ≤ h) (d : Int) : ∃ m : Nat, 0 < m ∧ ((m : Int) ∣ h) ∧ ∀ z : Int, h ∣ z * d ↔ (m : Int) ∣ z := by
  have g0 : 0 < Nat.gcd h.natAbs d.natAbs := Nat.gcd_pos_of_pos_left _ (by omega)
  obtain ⟨m, em⟩ := Nat.gcd_dvd_left h.natAbs d.natAbs
  obtain ⟨d', ed⟩ := Nat.gcd_dvd_right h.natAbs d.natAbs
  have cop : Nat.Coprime m d' := by
    have := Nat.coprime_div_gcd_div_gcd g0
    have h1 : h.natAbs / Nat.gcd h.natAbs d.natAbs = m := by
      conv => lhs; arg 1; rw [em]
      exact Nat.mul_div_cancel_left _ g0
    have h2 : d.natAbs / Nat.gcd h.natAbs d.natAbs = d' := by
      conv => lhs; arg 1; rw [ed]
      exact Nat.mul_div_cancel_left _ g0
    rwa [h1, h2] at this
  refine ⟨m, ?_, ?_, fun z => ?_⟩
  · rcases Nat.eq_zero_or_pos m with e | e
    · rw [e, Nat.mul_zero] at em; omega
    · exact e
  · rw [Int.ofNat_dvd_left, em]
    exact Nat.dvd_mul_left _ _
  · rw [← Int.natAbs_dvd_natAbs, Int.natAbs_mul, Int.ofNat_dvd_left]
    generalize Nat.gcd h.natAbs d.natAbs = g at *
    rw [em, ed, Nat.mul_left_comm, Nat.mul_dvd_mul_iff_left g0]
    exact ⟨fun h => cop.dvd_of_dvd_mul_right h, fun h => Nat.dvd_trans h (Nat.dvd_mul_right _ _)⟩
/-- some day for all, where two by two have one -/
theorem all_meet {h : Int} (hh : 1 ≤ h) (es : List (Int × Int × Int)) (pairs : ∀ e ∈ es, ∀ e' ∈ es, ∃ day : Int, (e.1 + day * e.2.1) % h = e.2.2 ∧ (e'.1 + day * e'.2.1) % h = e'.2.2) :
    ∃ day : Int, 0 ≤ day ∧ day < h ∧ ∀ e ∈ es, (e.1 + day * e.2.1) % h = e.2.2 := by
  have cl : ∀ e ∈ es, ∃ c : Nat × Int, 0 < c.1 ∧ ((c.1 : Int) ∣ h) ∧ ∀ day : Int, (e.1 + day * e.2.1) % h = e.2.2 ↔ InC day c := fun e0 he => by
    obtain ⟨t, ht, _⟩ := pairs e0 he e0 he
    obtain ⟨m, m0, mh, hm⟩ := dvd_cls hh e0.2.1
    refine ⟨(m, t), m0, mh, fun day => ?_⟩
    unfold InC
    rw [← hm, ← ht]
    constructor
    · intro e
      have := Int.emod_eq_emod_iff_emod_sub_eq_zero.mp e
      have e2 := Int.dvd_of_emod_eq_zero this
      rwa [show e0.1 + day * e0.2.1 - (e0.1 + t * e0.2.1) = (day - t) * e0.2.1 by rw [Int.sub_mul]; omega] at e2
    · intro e
      refine Int.emod_eq_emod_iff_emod_sub_eq_zero.mpr (Int.emod_eq_zero_of_dvd ?_)
      rwa [show e0.1 + day * e0.2.1 - (e0.1 + t * e0.2.1) = (day - t) * e0.2.1 by rw [Int.sub_mul]; omega]
  have bnd : ∃ x : Int, ∀ e ∈ es, (e.1 + x * e.2.1) % h = e.2.2 := by
    cases es with
    | nil => exact ⟨0, by simp⟩
    | cons e1 r =>
      have : ∃ cs : List (Nat × Int), (∀ c ∈ cs, 0 < c.1 ∧ ∃ e ∈ e1 :: r, ∀ day : Int, (e.1 + day * e.2.1) % h = e.2.2 ↔ InC day c) ∧ ∀ e ∈ e1 :: r, ∃ c ∈ cs, ∀ day : Int, (e.1 + day * e.2.1) % h = e.2.2 ↔ InC day c := by
        clear pairs
        generalize e1 :: r = es at cl
        induction es with
        | nil => exact ⟨[], by simp, by simp⟩
        | cons e1 r ih =>
          obtain ⟨cs, h1, h2⟩ := ih fun e he => cl e (List.mem_cons_of_mem _ he)
          obtain ⟨c, c0, _, hc⟩ := cl e1 List.mem_cons_self
          refine ⟨c :: cs, fun x hx => ?_, fun e he => ?_⟩
          · rcases List.mem_cons.mp hx with z | z
            · subst z; exact ⟨c0, e1, by simp, hc⟩
            · obtain ⟨z0, e, he, hh⟩ := h1 x z
              exact ⟨z0, e, List.mem_cons_of_mem _ he, hh⟩
          · rcases List.mem_cons.mp he with z | z
            · subst z; exact ⟨c, by simp, hc⟩
            · obtain ⟨c2, m, hh⟩ := h2 e z
              exact ⟨c2, List.mem_cons_of_mem _ m, hh⟩
      obtain ⟨cs, h1, h2⟩ := this
      cases cs with
      | nil => obtain ⟨c, m, _⟩ := h2 e1 (by simp); cases m
      | cons c0 cs =>
        obtain ⟨x, hx⟩ := helly cs c0 (fun c hc => (h1 c hc).1) fun c hc d hd => by
          obtain ⟨_, e, he, eh⟩ := h1 c hc
          obtain ⟨_, e', he', eh'⟩ := h1 d hd
          obtain ⟨x, x1, x2⟩ := pairs e he e' he'
          exact ⟨x, (eh x).mp x1, (eh' x).mp x2⟩
        exact ⟨x, fun e he => by
          obtain ⟨c, hc, hh⟩ := h2 e he
          exact (hh x).mpr (hx c hc)⟩
  obtain ⟨x, hx⟩ := bnd
  refine ⟨x % h, Int.emod_nonneg _ (by omega), Int.emod_lt_of_pos _ (by omega), fun e he => ?_⟩
  rw [← hx e he, Int.add_emod, Int.mul_emod, Int.emod_emod, ← Int.mul_emod, ← Int.add_emod]
end RG

/-! the data layer: four at once, == of like dicts, a dict's items as a list, calls by keywords -/
namespace RG
open PySem PySem.Spec PyProof.Rows L2
section
variable {C : Addr}
def dPar4 (i j k l : Nat) (da : DTA) : DTS := fun D δ n => da δ n fun xs δ' n' => ∃ x y z w, xs = [x, y, z, w] ∧ D.nx ((((δ'.set i (some (.v x))).set j (some (.v y))).set k (some (.v z))).set l (some (.v w))) n'
theorem tds_par4 {K : PySem.W.Frag} {i j k l : Nat} {ta : TA} {da : DTA} (h : TDA C ta da) : TDS C (tAsg (tTup ta) (gTup K 4 (gCons (gName i) (gCons (gName j) (gCons (gName k) (gCons (gName l) gNil)))))) (dPar4 i j k l da) := fun r hd hn _ _ _ => h r hd fun vs xs S1 H1 δ1 n1 g1 r1 s1 ⟨x, y, z, w, e, hk⟩ => by
  subst e
  cases s1 with
  | cons h1 t => cases t with
    | cons h2 t => cases t with
      | cons h3 t => cases t with
        | cons h4 t =>
          cases t
          rename_i v1 v2 v3 v4
          refine ⟨show 4 ≤ sizeLine by decide, fun p np => ⟨p, _, rfl, .inl (.of upd_same), rfl, ⟨_, _, rfl, ⟨_, _, rfl, ⟨_, _, rfl, ⟨_, _, rfl, ⟨rfl, ?_⟩⟩⟩⟩⟩⟩⟩
          have gn : Nx [] H1 (upd H1 p (.tup [v1, v2, v3, v4])) := .new np
          have r2 := r1.nx0 gn
          exact hn _ _ _ _ _ (g1.trans (.of0 gn)) ((((r2.set (ShV.nx gn.of0 h1)).set (ShV.nx gn.of0 h2)).set (ShV.nx gn.of0 h3)).set (ShV.nx gn.of0 h4)) hk
/-! ### == of dicts alike -/
def rEqDR : R2 := fun x y H Q => ∃ a b ks ls, x = .ref a ∧ y = .ref b ∧ Rd H a (.dK ks) ∧ Rd H b (.dK ls) ∧ ks.length = ls.length ∧ (∀ p ∈ ks, valV ls p.1 = some p.2 ∧ flatB p.2 = true) ∧ Q (.bl true) H
theorem op_eq_dictR {X : Cx} (hu : X.A.units < cLine) : OpR X (compareOp .Eq) rEqDR := by
  intro pins s σ H x y v u Q I rx ry h
  obtain ⟨a, b, ks, ls, rfl, rfl, ea, eb, hlen, hp, q⟩ := h
  obtain rfl : v = Value.ref a := rx
  obtain rfl : u = Value.ref b := ry
  obtain ⟨_, ya, va, ra, da⟩ := (show ObjOk X.prog X.w H s.heap a (.dK ks) from ea.ok I.hok)
  obtain ⟨_, yb, vb, rb, db⟩ := (show ObjOk X.prog X.w H s.heap b (.dK ls) from eb.ok I.hok)
  have hl : va.length = vb.length := by rw [← ra.length, ← rb.length]; exact hlen
  exact PySem.W.keq_eq (knd := mixKind X.prog X.w) (r := true) ya yb da db hu (fun _ => hits_all rb ra hp) (fin_bl I q (by simp [hl]))
theorem keqDR {X : Cx} {k : Nat} (hr : Room k X.A) : OpR X (compareOp .Eq) rEqDR := op_eq_dictR (by have := hr.un; show X.A.units < cLine; omega)
def fEqDD : F2 := fun a b k => ∃ ds : List (PyData × PyData), a = .d (.dict ds) ∧ b = .d (.dict ds) ∧ (∀ p ∈ ds, flatD p.2 = true) ∧ k (.d (.bool true))
theorem flatB_of {v : V} (h : flatV v = true) : flatB v = true := by cases v <;> first | rfl | cases h
theorem kv_flat {U T : List Addr} {H H' : Hp} : ∀ {ks ls : List (Key × V)} {ds : List (PyData × PyData)}, ImKv U H ks ds → ImKv T H' ls ds → (∀ p ∈ ds, flatD p.2 = true) → ks = ls ∧ ∀ p ∈ ks, flatB p.2 = true
  | _, _, _, .nil, h, _ => by cases h; exact ⟨rfl, by simp⟩
  | _, _, _, .cons (k := k1) (v := v) a t, h, f => by
    generalize hds : (kD k1, _) :: _ = ds0 at h f
    cases h with
    | nil => cases hds
    | @cons k2 w _ _ _ b t2 =>
      injection hds with e1 e2
      injection e1 with e3 e4
      subst e2 e4
      have ek : k1 = k2 := by
        have := congrArg keyD e3
        rw [keyD_kD, keyD_kD] at this
        exact Option.some.inj this
      subst ek
      have fa := f _ List.mem_cons_self
      obtain ⟨v1, v2⟩ := flat_v (ImR.of a) fa
      obtain ⟨w1, _⟩ := flat_v (ImR.of b) fa
      obtain ⟨e, hf⟩ := kv_flat t t2 fun p hp => f p (List.mem_cons_of_mem _ hp)
      refine ⟨by rw [v1, w1, e], fun p hp => ?_⟩
      rcases List.mem_cons.mp hp with z | z
      · rw [z]; exact flatB_of v2
      · exact hf p z
theorem ok_eqDD : BinOk C rEqDR fEqDD := fun {U M H v w a b k Q} h1 h2 ⟨ds, ea, eb, f, hk⟩ hq => by
  subst ea eb
  obtain ⟨a, ks, rfl, rd, nd, im⟩ := h1
  obtain ⟨b, ls, rfl, rd2, nd2, im2⟩ := h2
  obtain ⟨e, hf⟩ := kv_flat im im2 f
  subst e
  exact ⟨a, b, ks, ks, rfl, rfl, rd, rd2, rfl, fun p hp => ⟨val_nodup nd p hp, hf p hp⟩, hq _ _ (sh_bl true) hk⟩
/-! ### list(d.items()) -/
def itemsL (ds : List (PyData × PyData)) : List PyData := ds.map fun p => .tuple [p.1, p.2]
def dLItems (db : DTB) : DTF := fun δ n R => db δ n fun rv δ' n' => ∃ ds, rv.at δ' = some (.d (.dict ds)) ∧ R (.l (itemsL ds)) δ' n'
theorem pairs_im {U : List Addr} {H H' : Hp} {as : List Addr} {ks : List (Key × V)} {ds : List (PyData × PyData)} (g : Nx [] H H') (im : ImKv U H ks ds) (na : ∀ t ∈ as, t ∉ U) (hp : Paired (fun (t : Addr) (q : Key × V) => H' t = some (.tup [kV q.1, q.2])) as ks) : ImAll U H' (as.map V.ref) (itemsL ds) := by
  induction hp generalizing ds with
  | nil => cases im; exact .nil
  | cons h _ ih =>
    cases im with
    | cons a t =>
      exact .cons (Im.tup (na _ List.mem_cons_self) (.inl h) (.cons (Im.key _) (.cons (a.nx g.of0) .nil))) (ih t fun x hx => na x (List.mem_cons_of_mem _ hx))
theorem tdf_litems {te : TE} {db : DTB} (h : TB C te db) : TDF C (tLItems te) (dLItems db) := fun {F M S H σ δ n R Q} r hd hq => h r hd fun v rv S1 H1 δ1 n1 g1 r1 s1 ⟨ds, e, hk⟩ => by
  obtain ⟨d, ks, rfl, rd, nd, im⟩ := s1.use r1 e
  refine ⟨d, ks, rfl, rd, fun H' l as kp nl na las el pp => ?_⟩
  have g : Nx [] H1 H' := ⟨fun c o _ e => kp c o e, fun c hc z => by
    cases e : H1 c with
    | none => exact hc e
    | some o => rw [kp c o e] at z; cases z⟩
  refine hq l (.l (itemsL ds)) S1 H' δ1 n1 (g1.trans (.of0 g)) (r1.nx0 g) (r1.new nl g (by rw [el]; simp)) (g1.nx.fresh nl) (fun z => r1.fr nl (List.mem_append_left _ z)) (fun z => r1.fr nl (List.mem_append_right _ z)) ⟨_, el, ?_⟩ hk
  refine pairs_im g (U := l :: (S1 ++ F)) (ImKv.sub (fun a ha => (List.mem_cons.mp ha).elim (fun e => .inr (by rw [e]; exact nl)) .inl) _ im) (fun t ht z => ?_) pp
  rcases List.mem_cons.mp z with z | z
  · exact las (z ▸ ht)
  · exact r1.fr (na t ht) z
/-! ### calls by keywords, the parameters' order turned round -/
def dCallK (W : WP) (da : DTA) : DTE := fun δ n R => da δ n fun xs δ1 n1 => W xs.reverse n1 fun x n2 => R x δ1 n2
theorem ShVs.rev {U M : List Addr} {H : Hp} {vs : List V} {xs : List DV} (h : ShVs C U M H vs xs) : ShVs C U M H vs.reverse xs.reverse := by
  have app : ∀ {vs : List V} {xs : List DV} {v : V} {x : DV}, ShVs C U M H vs xs → ShV C U M H v x → ShVs C U M H (vs ++ [v]) (xs ++ [x]) := by
    intro vs xs v x h hv
    induction h with
    | nil => exact .cons hv .nil
    | cons a _ ih => exact .cons a ih
  induction h with
  | nil => exact .nil
  | cons a _ ih => rw [List.reverse_cons, List.reverse_cons]; exact app ih a
theorem td_callK {W : WP} {E : XK} {ta : TA} {da : DTA} (ha : TDA C ta da) : TD C (L2.tCallK (spW C W) revG E tNil ta) (dCallK W da) := fun {F M S H σ δ n R Q} r hd hq => ha r hd fun vs xs S1 H1 δ1 n1 g1 r1 s1 hk => by
  show spW C W ([] ++ vs.reverse) H1 Q E
  rw [List.nil_append]
  refine ⟨S1 ++ F, M, xs.reverse, n1, _, r1.al, fun a ha => List.mem_append_right _ (r1.mf a ha), r1.sp, s1.rev, hk, fun v x n' H' g sp sv hr => ?_⟩
  exact hq v x S1 H' δ1 n' (g1.trans (.of g fun _ h => h)) (r1.stp g r1.mf sp) sv hr
end
end RG

/-! drifts, plain: starts, days, what is due -/
namespace RG
open PySem PySem.Spec PyProof.Rows L2
abbrev Nums := List (Str × Int)
def numsKv (D : Nums) : List (PyData × PyData) := D.map fun p => (.str p.1, .int p.2)
def numsD (D : Nums) : PyData := .dict (numsKv D)
def numOf (D : Nums) (x : Str) : Int := ((D.find? fun a => decide (a.1 = x)).map (·.2)).getD 0
theorem look_cons {x y : Str} {d : PyData} {r : List (PyData × PyData)} : lookK ((.str y, d) :: r) (.inr x) = if y = x then some d else lookK r (.inr x) := by
  show (if (Sum.inr x : Key) = .inr y then some d else lookK r (.inr x)) = _
  by_cases e : y = x
  · subst e; rw [if_pos rfl, if_pos rfl]
  · rw [if_neg e, if_neg (fun z => e (Sum.inr.inj z).symm)]
theorem look_nums (D : Nums) (x : Str) : lookK (numsKv D) (.inr x) = if x ∈ D.map (·.1) then some (.int (numOf D x)) else none := by
  induction D with
  | nil => rfl
  | cons p r ih =>
    show lookK ((.str p.1, .int p.2) :: numsKv r) (.inr x) = _
    rw [look_cons, ih]
    by_cases e : p.1 = x
    · have : numOf (p :: r) x = p.2 := by unfold numOf; rw [List.find?_cons_of_pos (by simpa using e)]; rfl
      rw [if_pos e, this, if_pos (by simp [e])]
    · have : numOf (p :: r) x = numOf r x := by unfold numOf; rw [List.find?_cons_of_neg (by simpa using e)]
      rw [if_neg e, this]
      have e2 : ¬ x = p.1 := fun z => e z.symm
      simp only [List.map_cons, List.mem_cons, e2, false_or]
theorem look_arcs (A : Arcs) (x : Str) : lookK (kvsD A) (.inr x) = if x ∈ A.map (·.1) then some (arcD (arcOf A x)) else none := by
  induction A with
  | nil => rfl
  | cons p r ih =>
    show lookK ((.str p.1, arcD p.2) :: kvsD r) (.inr x) = _
    rw [look_cons, ih]
    by_cases e : p.1 = x
    · have : arcOf (p :: r) x = p.2 := by unfold arcOf; rw [List.find?_cons_of_pos (by simpa using e)]; rfl
      rw [if_pos e, this, if_pos (by simp [e])]
    · have : arcOf (p :: r) x = arcOf r x := by unfold arcOf; rw [List.find?_cons_of_neg (by simpa using e)]
      rw [if_neg e, this]
      have e2 : ¬ x = p.1 := fun z => e z.symm
      simp only [List.map_cons, List.mem_cons, e2, false_or]
/-- a dict of names -/
theorem look_map (ys : List Str) (f : Str → PyData) (x : Str) : lookK (ys.map fun y => (.str y, f y)) (.inr x) = if x ∈ ys then some (f x) else none := by
  induction ys with
  | nil => rfl
  | cons y r ih =>
    rw [List.map_cons, look_cons, ih]
    by_cases e : y = x
    · subst e; simp
    · have e2 : ¬ x = y := fun z => e z.symm
      rw [if_neg e]
      simp only [List.mem_cons, e2, false_or]
theorem numOf_mem {D : Nums} (nd : (D.map (·.1)).Nodup) {p : Str × Int} (h : p ∈ D) : numOf D p.1 = p.2 := by
  induction D with
  | nil => cases h
  | cons q r ih =>
    rw [List.map_cons, List.nodup_cons] at nd
    by_cases e : q.1 = p.1
    · rcases List.mem_cons.mp h with z | z
      · subst z; unfold numOf; rw [List.find?_cons_of_pos (by simp)]; rfl
      · exact absurd (e ▸ List.mem_map_of_mem z) nd.1
    · have : numOf (q :: r) p.1 = numOf r p.1 := by unfold numOf; rw [List.find?_cons_of_neg (by simpa using e)]
      rw [this]
      exact ih nd.2 ((List.mem_cons.mp h).resolve_left fun z => e (by rw [z]))
theorem numOf_in {D : Nums} {x : Str} (h : x ∈ D.map (·.1)) : (x, numOf D x) ∈ D := by
  induction D with
  | nil => cases h
  | cons q r ih =>
    by_cases e : q.1 = x
    · have : numOf (q :: r) x = q.2 := by unfold numOf; rw [List.find?_cons_of_pos (by simpa using e)]; rfl
      rw [this, ← e]; exact List.mem_cons_self
    · have : numOf (q :: r) x = numOf r x := by unfold numOf; rw [List.find?_cons_of_neg (by simpa using e)]
      rw [this]
      exact List.mem_cons_of_mem _ (ih (by rw [List.map_cons, List.mem_cons] at h; exact h.resolve_left fun z => e z.symm))
/-! ### sorted lists are one -/
theorem rising_pw : ∀ (p : Str) (l : List Str), risingS p l = true → (p :: l).Pairwise (fun a b => a.cps.toList ≤ b.cps.toList)
  | p, [], _ => by simp
  | p, x :: r, h => by
    unfold risingS at h
    rw [Bool.and_eq_true, ltCps_eq] at h
    have ih := rising_pw x r h.2
    have hx : p.cps.toList ≤ x.cps.toList := by
      have := h.1
      simp only [Bool.not_eq_eq_eq_not, Bool.not_true, decide_eq_false_iff_not] at this
      exact this
    refine List.pairwise_cons.mpr ⟨fun y hy => ?_, ih⟩
    rcases List.mem_cons.mp hy with e | hy
    · rw [e]; exact hx
    · exact List.le_trans hx ((List.pairwise_cons.mp ih).1 y hy)
theorem sorted_pw : ∀ (l : List Str), sortedS l = true → l.Pairwise (fun a b => a.cps.toList ≤ b.cps.toList)
  | [], _ => .nil
  | x :: r, h => rising_pw x r h
theorem sorted_one {xs ys : List Str} (p : xs.Perm ys) (h1 : sortedS xs = true) (h2 : sortedS ys = true) : xs = ys :=
  List.Perm.eq_of_pairwise (le := fun a b : Str => a.cps.toList ≤ b.cps.toList) (fun a b _ _ h h' => str_ext (List.le_antisymm h h')) (sorted_pw _ h1) (sorted_pw _ h2) p
/-! ### starts, days -/
def starts (h : Int) (A : Arcs) (D : Nums) (x : Str) (day : Int) : Int := ((arcOf A x).1 + day * numOf D x) % h
def intsL (h : Int) : List Int := (List.range h.toNat).map fun i => ((i : Nat) : Int)
theorem mem_ints {h i : Int} : i ∈ intsL h ↔ 0 ≤ i ∧ i < h := by
  unfold intsL
  simp only [List.mem_map, List.mem_range]
  exact ⟨fun ⟨a, b, c⟩ => by omega, fun ⟨a, b⟩ => ⟨i.toNat, by omega, by omega⟩⟩
theorem ints_D (h : Int) : intsFrom 0 h.toNat = (intsL h).map .int := by
  unfold intsFrom intsL
  rw [List.map_map]
  exact List.map_congr_left fun i _ => by simp
theorem ints_len (h : Int) : (intsL h).length = h.toNat := by unfold intsL; simp
def daysL (h : Int) (A : Arcs) (D : Nums) (x : Str) (w : Int) : List Int := (intsL h).filter fun day => decide (starts h A D x day = w)
theorem mem_days {h : Int} {A : Arcs} {D : Nums} {x : Str} {w i : Int} : i ∈ daysL h A D x w ↔ (0 ≤ i ∧ i < h) ∧ starts h A D x i = w := by
  unfold daysL
  rw [List.mem_filter, mem_ints]
  simp
def numP (p : Int → Bool) : PyData → Bool | .int i => p i | _ => false
theorem filter_ints (p : Int → Bool) (xs : List Int) : ((xs.map PyData.int).filter (numP p)).map id = (xs.filter p).map .int := by
  rw [List.filter_map, List.map_id]
  rfl
/-! ### what is due -/
def apartR (bad : Str → Str → Bool) : List Str → Option (Str × Str)
  | [] => none
  | x :: r => match r.find? (bad x) with
    | some y => some (x, y)
    | none => apartR bad r
def meetB (a b : List Int) : Bool := a.any fun i => decide (i ∈ b)
def dayOf (h : Int) (A : Arcs) (D W : Nums) (x : Str) : List Int := daysL h A D x (numOf W x)
def badP (h : Int) (A : Arcs) (D W : Nums) (x y : Str) : Bool := !meetB (dayOf h A D W x) (dayOf h A D W y)
def goodB (h : Int) (A : Arcs) (D W : Nums) (ys : List Str) (day : Int) : Bool := ys.all fun x => decide (day ∈ dayOf h A D W x)
def firstDay (h : Int) (A : Arcs) (D W : Nums) (ys : List Str) : Int := ((intsL h).find? (goodB h A D W ys)).getD 0
def dueD (h : Int) (A : Arcs) (D W : Nums) (ys : List Str) : PyData := match ys.find? fun x => (dayOf h A D W x).isEmpty with
  | some x => .tuple [.str "alone", .str x]
  | none => match apartR (badP h A D W) ys with
    | some p => .tuple [.str "apart", .str p.1, .str p.2]
    | none => .tuple [.str "yes", .int (firstDay h A D W ys)]
theorem apart_none {bad : Str → Str → Bool} : ∀ {ys : List Str}, apartR bad ys = none → ys.Pairwise fun x y => bad x y = false
  | [], _ => .nil
  | x :: r, h => by
    unfold apartR at h
    cases e : r.find? (bad x) with
    | some y => rw [e] at h; cases h
    | none =>
      rw [e] at h
      refine List.pairwise_cons.mpr ⟨fun y hy => ?_, apart_none h⟩
      have := List.find?_eq_none.mp e y hy
      simpa using this
theorem meet_days {a b : List Int} : meetB a b = true ↔ ∃ i, i ∈ a ∧ i ∈ b := by
  unfold meetB
  rw [List.any_eq_true]
  simp
theorem pw_all {α : Type} {R : α → α → Prop} (sy : ∀ x y, R x y → R y x) : ∀ {l : List α}, (∀ x ∈ l, R x x) → l.Pairwise R → ∀ x ∈ l, ∀ y ∈ l, R x y
  | [], _, _, _, h, _, _ => by cases h
  | a :: r, rf, p, x, hx, y, hy => by
    rcases List.mem_cons.mp hx with e | hx' <;> rcases List.mem_cons.mp hy with e2 | hy'
    · rw [e, e2]; exact rf a List.mem_cons_self
    · rw [e]; exact (List.pairwise_cons.mp p).1 y hy'
    · rw [e2]; exact sy _ _ ((List.pairwise_cons.mp p).1 x hx')
    · exact pw_all sy (fun z hz => rf z (List.mem_cons_of_mem _ hz)) (List.pairwise_cons.mp p).2 x hx' y hy'
/-- all alone have days, all two by two meet: some day is good -/
theorem good_day {h : Int} (hh : 1 ≤ h) {A : Arcs} {D W : Nums} {ys : List Str} (ha : ys.find? (fun x => (dayOf h A D W x).isEmpty) = none) (hp : apartR (badP h A D W) ys = none) : ∃ day : Int, 0 ≤ day ∧ day < h ∧ goodB h A D W ys day = true := by
  have alone : ∀ x ∈ ys, ∃ i, i ∈ dayOf h A D W x := fun x hx => by
    have := List.find?_eq_none.mp ha x hx
    cases e : dayOf h A D W x with
    | nil => rw [e] at this; exact absurd rfl this
    | cons i r => exact ⟨i, by simp⟩
  have pw := apart_none hp
  have pairs : ∀ x ∈ ys, ∀ y ∈ ys, ∃ i, i ∈ dayOf h A D W x ∧ i ∈ dayOf h A D W y := by
    have two : ys.Pairwise fun x y => ∃ i, i ∈ dayOf h A D W x ∧ i ∈ dayOf h A D W y := pw.imp fun {x y} e => by
      unfold badP at e
      rw [Bool.not_eq_false'] at e
      exact meet_days.mp e
    exact pw_all (fun _ _ ⟨i, a, b⟩ => ⟨i, b, a⟩) (fun x hx => by obtain ⟨i, hi⟩ := alone x hx; exact ⟨i, hi, hi⟩) two
  obtain ⟨day, d0, d1, hd⟩ := all_meet hh (ys.map fun x => ((arcOf A x).1, numOf D x, numOf W x)) (fun e he e' he' => by
    obtain ⟨x, hx, rfl⟩ := List.mem_map.mp he
    obtain ⟨y, hy, rfl⟩ := List.mem_map.mp he'
    obtain ⟨i, h1, h2⟩ := pairs x hx y hy
    exact ⟨i, (mem_days.mp h1).2, (mem_days.mp h2).2⟩)
  refine ⟨day, d0, d1, List.all_eq_true.mpr fun x hx => decide_eq_true (mem_days.mpr ⟨⟨d0, d1⟩, hd _ (List.mem_map_of_mem hx)⟩)⟩
theorem first_of {h : Int} {A : Arcs} {D W : Nums} {ys : List Str} {d : Nat} (hd : (d : Int) < h) (g : goodB h A D W ys d = true) (l : ∀ j : Nat, j < d → goodB h A D W ys j = false) : firstDay h A D W ys = d := by
  unfold firstDay intsL
  rw [List.find?_map]
  have : List.find? (goodB h A D W ys ∘ fun i => ((i : Nat) : Int)) (List.range h.toNat) = some d := List.find?_range_eq_some.mpr ⟨g, List.mem_range.mpr (by omega), fun j hj => by show (!goodB h A D W ys j) = true; rw [l j hj]; rfl⟩
  rw [this]
  rfl
/-! ### drifts, wishes -/
structure DriftOk (h : Int) (A : Arcs) (D : Nums) : Prop where
  pm : (D.map (·.1)).Perm (A.map (·.1))
  rg : ∀ p ∈ D, 0 ≤ p.2 ∧ p.2 < h
structure WishOk (h : Int) (A : Arcs) (W : Nums) : Prop where
  ln : W.length ≤ 40
  nd : (W.map (·.1)).Nodup
  inA : ∀ p ∈ W, p.1 ∈ A.map (·.1)
  rg : ∀ p ∈ W, 0 ≤ p.2 ∧ p.2 < h
structure RingOk (h : Int) (A : Arcs) : Prop where
  ok : ArcsOk h A
  ln : A.length ≤ 40
  h1 : 1 ≤ h
  h2 : h ≤ 1000
/-- drifts of a ring -/
def driftB (h : Int) (ds : List (PyData × PyData)) (n : Str) : Bool := match lookK ds (.inr n) with
  | some x => betB x 0 (h - 1)
  | none => false
def isDriftsB (h : Int) (A : Arcs) : PyData → Bool
  | .dict ds => decide (ds.length = A.length) && (A.map (·.1)).all (driftB h ds)
  | _ => false
def wishB (h : Int) (A : Arcs) (ds : List (PyData × PyData)) : PyData → Bool
  | .str x => decide (x ∈ A.map (·.1)) && driftB h ds x
  | _ => false
def isWishesB (h : Int) (A : Arcs) : PyData → Bool
  | .dict ds => (ds.map (·.1)).all (wishB h A ds)
  | _ => false
theorem DriftOk.mem {h : Int} {A : Arcs} {D : Nums} (o : DriftOk h A D) {x : Str} (hx : x ∈ A.map (·.1)) : x ∈ D.map (·.1) := o.pm.mem_iff.mpr hx
theorem DriftOk.at_ {h : Int} {A : Arcs} {D : Nums} (o : DriftOk h A D) {x : Str} (hx : x ∈ A.map (·.1)) : 0 ≤ numOf D x ∧ numOf D x < h := o.rg _ (numOf_in (o.mem hx))
theorem DriftOk.is {h : Int} {A : Arcs} {D : Nums} (o : DriftOk h A D) : isDriftsB h A (numsD D) = true := by
  have hl := o.pm.length_eq
  rw [List.length_map, List.length_map] at hl
  show (decide ((numsKv D).length = A.length) && _) = true
  rw [Bool.and_eq_true]
  refine ⟨decide_eq_true (by unfold numsKv; rw [List.length_map, hl]), List.all_eq_true.mpr fun x hx => ?_⟩
  unfold driftB
  rw [look_nums, if_pos (o.mem hx)]
  have := o.at_ hx
  simp only [betB, Bool.and_eq_true, decide_eq_true_eq]
  omega
theorem WishOk.is {h : Int} {A : Arcs} {W : Nums} (o : WishOk h A W) : isWishesB h A (numsD W) = true := by
  show ((numsKv W).map (·.1)).all _ = true
  refine List.all_eq_true.mpr fun k hk => ?_
  unfold numsKv at hk
  rw [List.map_map] at hk
  obtain ⟨p, hp, rfl⟩ := List.mem_map.mp hk
  show (decide (p.1 ∈ A.map (·.1)) && driftB h (numsKv W) p.1) = true
  rw [Bool.and_eq_true]
  refine ⟨decide_eq_true (o.inA p hp), ?_⟩
  unfold driftB
  rw [look_nums, if_pos (List.mem_map_of_mem hp)]
  have := o.rg _ (numOf_in (List.mem_map_of_mem (f := (·.1)) hp))
  simp only [betB, Bool.and_eq_true, decide_eq_true_eq]
  omega
theorem WishOk.keys {h : Int} {A : Arcs} {W : Nums} (o : WishOk h A W) : ∀ ds, numsD W = .dict ds → ds.length ≤ 1000 ∧ ∀ p ∈ ds, ∃ k, p.1 = kD k ∧ (lookK ds k).isSome = true := fun ds e => by
  injection e with e
  subst e
  refine ⟨by unfold numsKv; rw [List.length_map]; have := o.ln; omega, fun p hp => ?_⟩
  obtain ⟨q, hq, rfl⟩ := List.mem_map.mp hp
  exact ⟨.inr q.1, rfl, by rw [look_nums, if_pos (List.mem_map_of_mem hq)]; rfl⟩
theorem nums_keys (D : Nums) : (numsKv D).map (·.1) = (D.map (·.1)).map .str := by unfold numsKv; rw [List.map_map, List.map_map]; rfl
theorem find_at {α : Type} {p : α → Bool} {ys : List α} {i : Nat} {x : α} (e : ys[i]? = some x) (h : (ys.take i).find? p = none) (hp : p x = true) : ys.find? p = some x := by
  rw [← List.take_append_drop i ys, List.find?_append, h, List.drop_eq_getElem?_toList_append, e]
  simp [hp]
theorem find_step {α : Type} {p : α → Bool} {ys : List α} {i : Nat} {x : α} (e : ys[i]? = some x) (h : (ys.take i).find? p = none) (hp : p x = false) : (ys.take (i + 1)).find? p = none := by
  rw [List.take_add_one, List.find?_append, h, e]
  simp [hp]
/-- the arcs on a day -/
def turnA (h : Int) (A : Arcs) (D : Nums) (day : Int) (ys : List Str) : Arcs := ys.map fun x => (x, starts h A D x day, (arcOf A x).2)
end RG

/-! the data layer: each reading, one step (printed by mkw.py) -/
namespace RG
open PySem PySem.Spec PyProof.Rows L2
theorem w_dAug {i : Nat} {de : DTE} {f : Int → Int → Int} {D : DEnds} {δ : DSt} {n : Nat} (h : ∃ a, δ[i]? = some (some (.v (.d (.int a)))) ∧ de δ n fun x δ' n' => ∃ b, x = .d (.int b) ∧ D.nx (δ'.set i (some (.v (.d (.int (f a b)))))) n') : dAug i de f D δ n := h
theorem w_dCat {da db : DTB} {δ : DSt} {n : Nat} {R : DO → DSt → Nat → Prop} (h : da δ n fun ra δ1 n1 => db δ1 n1 fun rb δ2 n2 => ∃ xs ys, ra.at δ2 = some (.d (.list xs)) ∧ rb.at δ2 = some (.d (.list ys)) ∧ xs.length + ys.length ≤ 1000000 ∧ R (.l (xs ++ ys)) δ2 n2) : dCat da db δ n R := h
theorem w_dNoPart {δ : DSt} {n : Nat} {R : Option Int → DSt → Nat → Prop} (h : R none δ n) : dNoPart δ n R := h
theorem w_dPart {de : DTE} {δ : DSt} {n : Nat} {R : Option Int → DSt → Nat → Prop} (h : de δ n fun x δ' n' => ∃ i, x = .d (.int i) ∧ R (some i) δ' n') : dPart de δ n R := h
theorem w_dSl {db : DTB} {dl dh : DTO} {δ : DSt} {n : Nat} {R : DO → DSt → Nat → Prop} (h : db δ n fun rv δ1 n1 => dl δ1 n1 fun l δ2 n2 => dh δ2 n2 fun h δ3 n3 => ∃ xs, rv.at δ3 = some (.d (.list xs)) ∧ R (.l (cutD xs l h)) δ3 n3) : dSl db dl dh δ n R := h
theorem w_dPar4 {i j k l : Nat} {da : DTA} {D : DEnds} {δ : DSt} {n : Nat} (h : da δ n fun xs δ' n' => ∃ x y z w, xs = [x, y, z, w] ∧ D.nx ((((δ'.set i (some (.v x))).set j (some (.v y))).set k (some (.v z))).set l (some (.v w))) n') : dPar4 i j k l da D δ n := h
theorem w_dLItems {db : DTB} {δ : DSt} {n : Nat} {R : DO → DSt → Nat → Prop} (h : db δ n fun rv δ' n' => ∃ ds, rv.at δ' = some (.d (.dict ds)) ∧ R (.l (itemsL ds)) δ' n') : dLItems db δ n R := h
theorem w_dCallK {W : WP} {da : DTA} {δ : DSt} {n : Nat} {R : DV → DSt → Nat → Prop} (h : da δ n fun xs δ1 n1 => W xs.reverse n1 fun x n2 => R x δ1 n2) : dCallK W da δ n R := h
end RG

/-! the data layer: steps of the later readings -/
namespace RG
open PySem PySem.Spec PyProof.Rows L2
theorem w_dWhile {dt : DTT} {db : DTS} {D : DEnds} {δ : DSt} {n : Nat} (h : ∃ P : Nat → DSt → Nat → Prop, (∃ m, P m δ n) ∧ ∀ m δ n, P m δ n → dt δ n fun b δ1 n1 => if b = true then
  db { nx := fun δ2 n2 => ∃ m', m' < m ∧ P m' δ2 n2, rt := D.rt, bk := D.nx, ct := fun δ2 n2 => ∃ m', m' < m ∧ P m' δ2 n2 } δ1 n1 else D.nx δ1 n1) : dWhile dt db D δ n := h
section
variable {ra rb : RV} {δ : DSt} {xs ys : List PyData} {ds : List (PyData × PyData)}
theorem w_catD {R : List PyData → List PyData → Prop} (h1 : ra.at δ = some (.d (.list xs))) (h2 : rb.at δ = some (.d (.list ys))) (h3 : xs.length + ys.length ≤ 1000000) (h : R xs ys) : ∃ xs ys, ra.at δ = some (.d (.list xs)) ∧ rb.at δ = some (.d (.list ys)) ∧ xs.length + ys.length ≤ 1000000 ∧ R xs ys := ⟨xs, ys, h1, h2, h3, h⟩
theorem w_two {a b : DV} {B : DV → DV → Prop} (h : B a b) : ∃ x y, [a, b] = [x, y] ∧ B x y := ⟨a, b, rfl, h⟩
theorem w_three {a b c : DV} {B : DV → DV → DV → Prop} (h : B a b c) : ∃ x y z, [a, b, c] = [x, y, z] ∧ B x y z := ⟨a, b, c, rfl, h⟩
theorem w_four {a b c d : DV} {B : DV → DV → DV → DV → Prop} (h : B a b c d) : ∃ x y z w, [a, b, c, d] = [x, y, z, w] ∧ B x y z w := ⟨a, b, c, d, rfl, h⟩
theorem w_cat {R : List PyData → Prop} (h1 : ra.at δ = some (.d (.list xs))) (h2 : rb.at δ = some (.d (.list ys))) (h3 : xs.length + ys.length ≤ 1000000) (h : R (xs ++ ys)) : ∃ xs ys, ra.at δ = some (.d (.list xs)) ∧ rb.at δ = some (.d (.list ys)) ∧ xs.length + ys.length ≤ 1000000 ∧ R (xs ++ ys) := ⟨xs, ys, h1, h2, h3, h⟩
theorem w_getD {x d : PyData} {key : Key} {R : PyData → Prop} (h1 : ra.at δ = some (.d (.dict ds))) (h2 : rb.at δ = some (.d x)) (h3 : keyD x = some key) (h4 : lookK ds key = some d) (h : R d) :
    ∃ ds x key d, ra.at δ = some (.d (.dict ds)) ∧ rb.at δ = some (.d x) ∧ keyD x = some key ∧ lookK ds key = some d ∧ R d := ⟨ds, x, key, d, h1, h2, h3, h4, h⟩
theorem w_rngD {rs : List RV} {j : Int} {R : Int → Prop} (e : atAll δ rs = some [.d (.int j)]) (h1 : -(2 ^ 62) ≤ j) (h2 : j < 2 ^ 62) (h : R j) : ∃ j : Int, atAll δ rs = some [.d (.int j)] ∧ -(2 ^ 62) ≤ j ∧ j < 2 ^ 62 ∧ R j := ⟨j, e, h1, h2, h⟩
theorem w_rngE {rs : List RV} {i j : Int} {R : Int → Int → Prop} (e : atAll δ rs = some [.d (.int i), .d (.int j)]) (h1 : -(2 ^ 62) ≤ i ∧ i < 2 ^ 62 ∧ -(2 ^ 62) ≤ j ∧ j < 2 ^ 62) (h : R i j) : ∃ i j : Int, atAll δ rs = some [.d (.int i), .d (.int j)] ∧ (-(2 ^ 62) ≤ i ∧ i < 2 ^ 62 ∧ -(2 ^ 62) ≤ j ∧ j < 2 ^ 62) ∧ R i j := ⟨i, j, e, h1, h⟩
theorem w_enumD {R : List PyData → Prop} (h : R xs) : ∃ es, [DV.d (.list xs)] = [.d (.list es)] ∧ R es := ⟨xs, rfl, h⟩
theorem w_truD {x : PyData} {R : PyData → Prop} (h1 : ra.at δ = some (.d x)) (h2 : ∀ s, x = .str s → s.length ≤ sizeLine) (h : R x) : ∃ x, ra.at δ = some (.d x) ∧ (∀ s, x = .str s → s.length ≤ sizeLine) ∧ R x := ⟨x, h1, h2, h⟩
theorem w_cutL {R : List PyData → Prop} (h1 : ra.at δ = some (.d (.list xs))) (h : R xs) : ∃ xs, ra.at δ = some (.d (.list xs)) ∧ R xs := ⟨xs, h1, h⟩
theorem w_dictO {R : List (PyData × PyData) → Prop} (h1 : ra.at δ = some (.d (.dict ds))) (h : R ds) : ∃ ds, ra.at δ = some (.d (.dict ds)) ∧ R ds := ⟨ds, h1, h⟩
theorem w_int {i : Int} {R : Int → Prop} (h : R i) : ∃ j, DV.d (.int i) = .d (.int j) ∧ R j := ⟨i, rfl, h⟩
theorem w_aug {i : Nat} {a : Int} {R : Int → Prop} (h1 : δ[i]? = some (some (.v (.d (.int a))))) (h : R a) : ∃ a, δ[i]? = some (some (.v (.d (.int a)))) ∧ R a := ⟨a, h1, h⟩
theorem w_eqDD {k : DV → Prop} (h1 : ∀ p ∈ ds, flatD p.2 = true) (h : k (.d (.bool true))) : fEqDD (.d (.dict ds)) (.d (.dict ds)) k := ⟨ds, rfl, rfl, h1, h⟩
theorem w_put {z d : PyData} {key : Key} {kvs : List (PyData × PyData)} {i : Nat} {R : PyData → Key → List (PyData × PyData) → Prop} (h1 : keyD z = some key) (h2 : δ[i]? = some (some (.m kvs))) (h3 : kvs.length < 1000000) (h : R d key kvs) :
    ∃ d' z' key kvs, DV.d d = .d d' ∧ DV.d z = .d z' ∧ keyD z' = some key ∧ δ[i]? = some (some (.m kvs)) ∧ kvs.length < 1000000 ∧ R d' key kvs := ⟨d, z, key, kvs, rfl, rfl, h1, h2, h3, h⟩
/-- all([p(k) for k in ..]) -/
theorem bools_map {α : Type} (f : α → Bool) (xs : List α) : xs.map (fun x => PyData.bool (f x)) = (xs.map f).map .bool := by rw [List.map_map]; rfl
end
/-! ### comprehensions, walks: sealed -/
def LcG (dg : DTG) (dt : DTT) (de : DTE) (vs : List Nat) (R : DO → DSt → Nat → Prop) (ds : List PyData) (δ1 : DSt) (n1 : Nat) : Prop := ∃ P : Nat → List PyData → DSt → Nat → Prop, P 0 [] (wipeD δ1 vs) n1 ∧
  (∀ i d acc δ n, ds[i]? = some d → P i acc δ n → acc.length < 1000000 ∧ dg (.d d) δ n fun δ' n' => dt δ' n' fun b δ2 n2 => if b = true then de δ2 n2 fun x δ3 n3 => ∃ y, x = .d y ∧ P (i + 1) (acc ++ [y]) (wipeD δ3 vs) n3 else P (i + 1) acc (wipeD δ2 vs) n2) ∧
  ∀ acc δ n, P ds.length acc δ n → R (.l acc) (wipeD δ vs) n
theorem w_dLcG {di : DTI} {dg : DTG} {dt : DTT} {de : DTE} {vs : List Nat} {R : DO → DSt → Nat → Prop} {δ : DSt} {n : Nat} (h : di δ n (LcG dg dt de vs R)) : dLc di dg dt de vs δ n R := h
def DcG (dg : DTG) (dt : DTT) (dk dv : DTE) (vs : List Nat) (R : DO → DSt → Nat → Prop) (ds : List PyData) (δ1 : DSt) (n1 : Nat) : Prop := ∃ P : Nat → List (PyData × PyData) → DSt → Nat → Prop, P 0 [] (wipeD δ1 vs) n1 ∧
  (∀ i d acc δ n, ds[i]? = some d → P i acc δ n → acc.length < 1000000 ∧ dg (.d d) δ n fun δ' n' => dt δ' n' fun b δ2 n2 => if b = true then dk δ2 n2 fun x δ3 n3 => dv δ3 n3 fun y δ4 n4 => ∃ z key d, x = .d z ∧ keyD z = some key ∧ y = .d d ∧ P (i + 1) (putD acc key d) (wipeD δ4 vs) n4 else P (i + 1) acc (wipeD δ2 vs) n2) ∧
  ∀ acc δ n, P ds.length acc δ n → R (.m acc) (wipeD δ vs) n
theorem w_dDcG {di : DTI} {dg : DTG} {dt : DTT} {dk dv : DTE} {vs : List Nat} {R : DO → DSt → Nat → Prop} {δ : DSt} {n : Nat} (h : di δ n (DcG dg dt dk dv vs R)) : dDc di dg dt dk dv vs δ n R := h
def ForG (dg : DTG) (db : DTS) (D : DEnds) (ds : List PyData) (δ1 : DSt) (n1 : Nat) : Prop := ∃ P : Nat → DSt → Nat → Prop, P 0 δ1 n1 ∧
  (∀ i d δ n, ds[i]? = some d → P i δ n → dg (.d d) δ n fun δ' n' => db { nx := P (i + 1), rt := D.rt, bk := D.nx, ct := P (i + 1) } δ' n') ∧ ∀ δ n, P ds.length δ n → D.nx δ n
theorem w_dForG {di : DTI} {dg : DTG} {db : DTS} {D : DEnds} {δ : DSt} {n : Nat} (h : di δ n (ForG dg db D)) : dFor di dg db D δ n := h
section
variable {dg : DTG} {dt : DTT} {de dk dv : DTE} {vs : List Nat} {δ1 : DSt} {n1 : Nat} {ds : List PyData} {R : DO → DSt → Nat → Prop} {db : DTS} {D : DEnds}
/-- [f d for d in ds if p d], nothing drawn -/
theorem lcg_map (p : PyData → Bool) (f : PyData → PyData) (hl : ds.length ≤ 1000000)
    (hs : ∀ (i : Nat) (d : PyData) (acc : List PyData), ds[i]? = some d → acc = ((ds.take i).filter p).map f → dg (.d d) (wipeD δ1 vs) n1 fun δ' n' => dt δ' n' fun b δ2 n2 => if b = true then de δ2 n2 fun x δ3 n3 => ∃ y, x = .d y ∧ (wipeD δ3 vs = wipeD δ1 vs ∧ n3 = n1 ∧ acc ++ [y] = ((ds.take (i + 1)).filter p).map f ∧ i + 1 ≤ ds.length)
      else (wipeD δ2 vs = wipeD δ1 vs ∧ n2 = n1 ∧ acc = ((ds.take (i + 1)).filter p).map f ∧ i + 1 ≤ ds.length))
    (hR : R (.l ((ds.filter p).map f)) (wipeD δ1 vs) n1) : LcG dg dt de vs R ds δ1 n1 := lc_map p f hl hs hR
/-- .. where some slots may be forgotten on the way -/
theorem lcg_mapZ (Z : DSt → Prop) (p : PyData → Bool) (f : PyData → PyData) (hz : Z (wipeD δ1 vs)) (hl : ds.length ≤ 1000000)
    (hs : ∀ (δ : DSt) (i : Nat) (d : PyData) (acc : List PyData), Z δ → ds[i]? = some d → acc = ((ds.take i).filter p).map f → dg (.d d) δ n1 fun δ' n' => dt δ' n' fun b δ2 n2 => if b = true then de δ2 n2 fun x δ3 n3 => ∃ y, x = .d y ∧ (Z (wipeD δ3 vs) ∧ n3 = n1 ∧ acc ++ [y] = ((ds.take (i + 1)).filter p).map f ∧ i + 1 ≤ ds.length)
      else (Z (wipeD δ2 vs) ∧ n2 = n1 ∧ acc = ((ds.take (i + 1)).filter p).map f ∧ i + 1 ≤ ds.length))
    (hR : ∀ δ, Z δ → R (.l ((ds.filter p).map f)) (wipeD δ vs) n1) : LcG dg dt de vs R ds δ1 n1 := by
  refine ⟨fun i acc δ n => Z δ ∧ n = n1 ∧ acc = ((ds.take i).filter p).map f ∧ i ≤ ds.length, ⟨hz, rfl, by simp, Nat.zero_le _⟩, ?_, ?_⟩
  · rintro i d acc δ n ed ⟨z, rfl, ha, hi⟩
    refine ⟨?_, hs δ i d acc z ed ha⟩
    rw [ha, List.length_map]
    have := List.length_filter_le p (ds.take i)
    rw [List.length_take] at this
    have := (List.getElem?_eq_some_iff.mp ed).1
    omega
  · rintro acc δ n ⟨z, rfl, rfl, _⟩
    rw [List.take_length]
    exact hR δ z
/-- .. in general; the slots as before -/
theorem lcg (P : Nat → List PyData → Nat → Prop) (h0 : P 0 [] n1)
    (hs : ∀ (i : Nat) (d : PyData) (acc : List PyData) (n : Nat), ds[i]? = some d → P i acc n → acc.length < 1000000 ∧ dg (.d d) (wipeD δ1 vs) n fun δ' n' => dt δ' n' fun b δ2 n2 => if b = true then de δ2 n2 fun x δ3 n3 => ∃ y, x = .d y ∧ (wipeD δ3 vs = wipeD δ1 vs ∧ P (i + 1) (acc ++ [y]) n3)
      else (wipeD δ2 vs = wipeD δ1 vs ∧ P (i + 1) acc n2))
    (hR : ∀ acc n, P ds.length acc n → R (.l acc) (wipeD δ1 vs) n) : LcG dg dt de vs R ds δ1 n1 := by
  refine ⟨fun i acc δ n => δ = wipeD δ1 vs ∧ P i acc n, ⟨rfl, h0⟩, ?_, ?_⟩
  · rintro i d acc δ n ed ⟨rfl, p⟩
    exact hs i d acc n ed p
  · rintro acc δ n ⟨rfl, p⟩
    rw [wipeD_idem]
    exact hR acc n p
theorem dcg (P : Nat → List (PyData × PyData) → Nat → Prop) (h0 : P 0 [] n1)
    (hs : ∀ (i : Nat) (d : PyData) (acc : List (PyData × PyData)) (n : Nat), ds[i]? = some d → P i acc n → acc.length < 1000000 ∧ dg (.d d) (wipeD δ1 vs) n fun δ' n' => dt δ' n' fun b δ2 n2 => if b = true then dk δ2 n2 fun x δ3 n3 => dv δ3 n3 fun y δ4 n4 => ∃ z key d, x = .d z ∧ keyD z = some key ∧ y = .d d ∧ (wipeD δ4 vs = wipeD δ1 vs ∧ P (i + 1) (putD acc key d) n4)
      else (wipeD δ2 vs = wipeD δ1 vs ∧ P (i + 1) acc n2))
    (hR : ∀ acc n, P ds.length acc n → R (.m acc) (wipeD δ1 vs) n) : DcG dg dt dk dv vs R ds δ1 n1 := by
  refine ⟨fun i acc δ n => δ = wipeD δ1 vs ∧ P i acc n, ⟨rfl, h0⟩, ?_, ?_⟩
  · rintro i d acc δ n ed ⟨rfl, p⟩
    exact hs i d acc n ed p
  · rintro acc δ n ⟨rfl, p⟩
    rw [wipeD_idem]
    exact hR acc n p
/-- the dict {x: f x} so far -/
def MapTo (f : Str → PyData) (ss : List Str) (n1 : Nat) : Nat → List (PyData × PyData) → Nat → Prop := fun i acc n => n = n1 ∧ acc = (ss.take i).map fun x => (.str x, f x)
theorem MapTo.snoc {f : Str → PyData} {ss : List Str} {n : Nat} {i : Nat} {acc : List (PyData × PyData)} {x : Str} (nd : ss.Nodup) (h : MapTo f ss n1 i acc n) (e : ss[i]? = some x) : MapTo f ss n1 (i + 1) (putD acc (.inr x) (f x)) n := by
  obtain ⟨rfl, rfl⟩ := h
  refine ⟨rfl, ?_⟩
  have hx : x ∉ ss.take i := fun z => by
    obtain ⟨hi, rfl⟩ := List.getElem?_eq_some_iff.mp e
    obtain ⟨j, hj, ej⟩ := List.mem_iff_getElem.mp z
    rw [List.length_take] at hj
    rw [List.getElem_take] at ej
    exact List.pairwise_iff_getElem.mp nd j i (by omega) hi (by omega) ej
  rw [putD_new (by rw [look_map, if_neg hx]) (fun p hp => by obtain ⟨y, _, rfl⟩ := List.mem_map.mp hp; exact ⟨.inr y, rfl⟩), List.take_add_one, e, List.map_append]
  rfl
theorem forg (P : Nat → DSt → Nat → Prop) (h0 : P 0 δ1 n1)
    (hs : ∀ i d δ n, ds[i]? = some d → P i δ n → dg (.d d) δ n fun δ' n' => db { nx := P (i + 1), rt := D.rt, bk := D.nx, ct := P (i + 1) } δ' n') (hR : ∀ δ n, P ds.length δ n → D.nx δ n) : ForG dg db D ds δ1 n1 := ⟨P, h0, hs, hR⟩
theorem forg_any (hs : ∀ (i : Nat) (d : PyData), ds[i]? = some d → dg (.d d) δ1 n1 fun δ' n' => db { nx := fun δ n => δ = δ1 ∧ n = n1, rt := D.rt, bk := D.nx, ct := fun δ n => δ = δ1 ∧ n = n1 } δ' n') (hR : D.nx δ1 n1) : ForG dg db D ds δ1 n1 := for_any hs hR
end
/-- a test of a name, as data -/
def strP (p : Str → Bool) : PyData → PyData | .str x => .bool (p x) | _ => .bool false
theorem strs_P (p : Str → Bool) (ys : List Str) : (ys.map PyData.str).map (strP p) = (ys.map p).map .bool := by rw [List.map_map, List.map_map]; rfl
theorem strs_at {ys : List Str} {i : Nat} {d : PyData} (e : (ys.map PyData.str)[i]? = some d) : ∃ x, ys[i]? = some x ∧ d = .str x := by
  rw [List.getElem?_map] at e
  obtain ⟨x, h1, h2⟩ := Option.map_eq_some_iff.mp e
  exact ⟨x, h1, h2.symm⟩
/-- never reached -/
def dNever : DTS := fun _ _ _ => False
theorem tds_never {C : Addr} : TDS C tNever dNever := fun _ h => h.elim
/-- name = {..} on one line, the name a local -/
theorem ps_setDc {X : Cx} {i : Nat} {y : Str} {py : Pos} {kx vx tg iter : Expr} {ifs : List Expr} {scope : Scope} {own : List (Str × Nat)} {pos spos : Pos} {wi : TI} {g : TG} {tt : TT} {tk tv : TE} (hc : X.calm = true) (hN : X.N.Nodup) (hy : X.N[i]? = some y) (hyl : X.env.scope.names.lookup y = some .local)
    (hsw : swapsWith (.DictComp kx vx [⟨tg, iter, ifs, 0⟩] scope pos) (some (.Name y py)) spos.line X.env = pure true) (hi : PI X tg iter wi) (ok : BlkOk X.N X.env.scope scope own)
    (hg : ∀ (s : Shared) (H : Hp) (C : Addr) (cl : List (Str × Addr)) (fp : List Addr), PG (X.blk s H scope (compEnvC scope cl C X.env) fp) tg g) (ht : ∀ (s : Shared) (H : Hp) (C : Addr) (cl : List (Str × Addr)) (fp : List Addr), PTs (X.blk s H scope (compEnvC scope cl C X.env) fp) ifs tt)
    (hk : ∀ (s : Shared) (H : Hp) (C : Addr) (cl : List (Str × Addr)) (fp : List Addr), PE (X.blk s H scope (compEnvC scope cl C X.env) fp) kx tk)
    (he : ∀ (s : Shared) (H : Hp) (C : Addr) (cl : List (Str × Addr)) (fp : List Addr), PE (X.blk s H scope (compEnvC scope cl C X.env) fp) vx tv) (hs : ∀ x, foldedSetIterable iter X.env x = pure x := by intro _; rfl) :
    PS X (.Assign [.Name y py] (.DictComp kx vx [⟨tg, iter, ifs, 0⟩] scope pos) spos) (tAsg (tDc wi g tt tk tv (own.map (·.2))) (gName i)) := by
  refine ⟨fun pins s σ H D I h => ?_⟩
  rw [exec_Assign_Name_used _ _ _ _ hsw]
  refine wpAny_bind (wpAny_standAt (wpAny_bind ?_))
  show wpAny _ X.A (do let _ ← comprehension (.DictComp kx vx [⟨tg, iter, ifs, 0⟩] scope pos) scope X.env (firstIterPos [⟨tg, iter, ifs, 0⟩] pos) newDict false (eval iter X.env) (some (assign (.Name y py) X.env))) _ _ s
  have h : tDc wi g tt tk tv (own.map (·.2)) σ H (fun x H1 => gName i x σ H1 D.nx) := h
  refine wpAny_bind (thn (dc_core (Qf := fun _ s' => SP X pins D .next s') hc hN I hi ok hg ht hk he hs h fun L C s' m H' I' q hn f => ?_) fun _ s' hq => wpAny_pure (wpAny_pure hq))
  show wpAny _ _ (assign (.Name y py) X.env (.ref L)) _ _ _
  refine wpAny_assign_Name (store_ok2 (v := V.ref L) I' hN hy (.inl hyl) rfl (fun s2 I2 ⟨a, sb, ha⟩ => ?_) (.inr hyl))
  obtain ⟨f0, f1, f2, f3, f4, f5⟩ := f
  have haC : C ≠ a := by
    rcases ha with z | z
    · rw [z]; exact f1
    · exact fun e => f4 y a z e.symm
  refine ⟨m, hn.sameBut sb haC, fun h3 sb3 => ?_⟩
  exact ⟨_, H', I2.turned (t' := s2.toks) (fun b o hb e => (sb3.2 b hb).trans e) f0 f1 f3 f4 f5, q⟩
theorem sw_trueD {kx vx : Expr} {gs : List Comprehension} {scope : Scope} {pos py : Pos} {y : Str} {l : Nat} {env : Env} (hk : env.scope.kind = .function) (hy : env.scope.names.lookup y = some .local) (hl : (py.line == pos.line) = true)
    (ha : (scope.names.any fun (n, k) => n == y && (k == .local || k == .cell)) = false) : swapsWith (.DictComp kx vx gs scope pos) (some (.Name y py)) l env = pure true := by
  have ky : env.kindOf y = some .local := hy
  have hb : env.blockKind = .function := by unfold Env.blockKind; rw [hk]; rfl
  unfold swapsWith
  simp only [hb, ky, ha, Expr.pos, hl]
  rfl
theorem w_dVarM {i : Nat} {δ : DSt} {n : Nat} {R : DV → DSt → Nat → Prop} {kvs : List (PyData × PyData)} (e : δ[i]? = some (some (.m kvs))) (h : R (.d (.dict kvs)) (δ.set i (some (.v (.d (.dict kvs))))) n) : dVar i δ n R := .inr ⟨_, e, trivial, h⟩
theorem w_dVarL {i : Nat} {δ : DSt} {n : Nat} {R : DV → DSt → Nat → Prop} {xs : List PyData} (e : δ[i]? = some (some (.l xs))) (h : R (.d (.list xs)) (δ.set i (some (.v (.d (.list xs))))) n) : dVar i δ n R := .inr ⟨_, e, trivial, h⟩
theorem arcOf_turn {h : Int} {A : Arcs} {D : Nums} {day : Int} {x : Str} : ∀ {ys : List Str}, x ∈ ys → arcOf (turnA h A D day ys) x = (starts h A D x day, (arcOf A x).2)
  | [], hm => by cases hm
  | y :: r, hm => by
    by_cases e : y = x
    · subst e
      unfold arcOf turnA
      rw [List.map_cons, List.find?_cons_of_pos (by simp)]
      rfl
    · have : arcOf (turnA h A D day (y :: r)) x = arcOf (turnA h A D day r) x := by
        unfold arcOf turnA
        rw [List.map_cons, List.find?_cons_of_neg (by simpa using e)]
      rw [this]
      exact arcOf_turn ((List.mem_cons.mp hm).resolve_left fun z => e z.symm)
theorem turn_names {h : Int} {A : Arcs} {D : Nums} {day : Int} {ys : List Str} : (turnA h A D day ys).map (·.1) = ys := by
  unfold turnA
  rw [List.map_map]
  exact (List.map_congr_left fun _ _ => rfl).trans (List.map_id ys)
theorem arcsBy_turn {h : Int} {A : Arcs} {D : Nums} {day : Int} {ys zs : List Str} (p : zs.Perm ys) : arcsBy (turnA h A D day ys) zs = turnA h A D day zs := by
  unfold arcsBy
  refine List.map_congr_left fun x hx => ?_
  rw [arcOf_turn (p.mem_iff.mp hx)]
theorem arcOf_in {A : Arcs} {x : Str} (h : x ∈ A.map (·.1)) : (x, arcOf A x) ∈ A := by
  induction A with
  | nil => cases h
  | cons q r ih =>
    by_cases e : q.1 = x
    · have : arcOf (q :: r) x = q.2 := by unfold arcOf; rw [List.find?_cons_of_pos (by simpa using e)]; rfl
      rw [this, ← e]; exact List.mem_cons_self
    · have : arcOf (q :: r) x = arcOf r x := by unfold arcOf; rw [List.find?_cons_of_neg (by simpa using e)]
      rw [this]
      exact List.mem_cons_of_mem _ (ih (by rw [List.map_cons, List.mem_cons] at h; exact h.resolve_left fun z => e z.symm))
theorem RingOk.turn {h : Int} {A : Arcs} (o : RingOk h A) {D : Nums} {day : Int} {ys : List Str} (p : ys.Perm (A.map (·.1))) : RingOk h (turnA h A D day ys) := by
  have z1 := o.h1
  have at_ : ∀ a ∈ turnA h A D day ys, ∃ x ∈ ys, a = (x, starts h A D x day, (arcOf A x).2) := fun a ha => by
    obtain ⟨x, hx, rfl⟩ := List.mem_map.mp ha
    exact ⟨x, hx, rfl⟩
  have inA : ∀ x ∈ ys, (x, arcOf A x) ∈ A := fun x hx => arcOf_in (p.mem_iff.mp hx)
  refine ⟨⟨fun a ha => ?_, ?_, fun a ha => ?_, fun a ha => ?_⟩, ?_, o.h1, o.h2⟩
  · obtain ⟨x, hx, rfl⟩ := at_ a ha
    exact o.ok.names (x, arcOf A x) (inA x hx)
  · rw [turn_names]; exact p.nodup_iff.mpr o.ok.nd
  · obtain ⟨x, hx, rfl⟩ := at_ a ha
    exact ⟨Int.emod_nonneg _ (by omega), Int.emod_lt_of_pos _ (by omega)⟩
  · obtain ⟨x, hx, rfl⟩ := at_ a ha
    exact o.ok.ln (x, arcOf A x) (inA x hx)
  · unfold turnA; rw [List.length_map, p.length_eq, List.length_map]; exact o.ln
theorem cutD_from {xs : List PyData} {i : Nat} (h : i + 1 ≤ xs.length) : cutD xs (some ((i : Int) + 1)) none = xs.drop (i + 1) := by
  unfold cutD
  have e1 : HT.sIx xs.length 0 (some ((i : Int) + 1)) = i + 1 := by rw [show ((i : Int) + 1) = ((i + 1 : Nat) : Int) by omega, HT.sIx_nat]; omega
  have e2 : HT.sIx xs.length xs.length none = xs.length := rfl
  rw [e1, e2, List.take_of_length_le (by rw [List.length_drop]; omega)]
theorem apart_at {bad : Str → Str → Bool} {ys : List Str} {i : Nat} {x : Str} (e : ys[i]? = some x) : ys.drop i = x :: ys.drop (i + 1) := by
  obtain ⟨hi, rfl⟩ := List.getElem?_eq_some_iff.mp e
  exact List.drop_eq_getElem_cons hi
def intP (p : Int → Bool) : PyData → PyData | .int x => .bool (p x) | _ => .bool false
theorem ints_P (p : Int → Bool) (ys : List Int) : (ys.map PyData.int).map (intP p) = (ys.map p).map .bool := by rw [List.map_map, List.map_map]; rfl
theorem ints_at {ys : List Int} {i : Nat} {d : PyData} (e : (ys.map PyData.int)[i]? = some d) : ∃ x, ys[i]? = some x ∧ d = .int x := by
  rw [List.getElem?_map] at e
  obtain ⟨x, h1, h2⟩ := Option.map_eq_some_iff.mp e
  exact ⟨x, h1, h2.symm⟩
def pairP (f : Str → PyData) : PyData → PyData | .str x => .tuple [.str x, f x] | _ => .none
theorem pairs_P (f : Str → PyData) (ys : List Str) : (ys.map PyData.str).map (pairP f) = (ys.map fun x => (PyData.str x, f x)).map (fun p => .tuple [p.1, p.2]) := by rw [List.map_map, List.map_map]; rfl
theorem nodup_str {ys : List Str} (h : ys.Nodup) : (ys.map PyData.str).Nodup := by
  refine List.pairwise_map.mpr (h.imp fun e z => e ?_)
  injection z
theorem atI_hd {d : PyData} {r : List PyData} : atI (d :: r) 0 = some d := atI_nat (j := 0) rfl
theorem w_copyA {A : Arcs} {k : DO → Prop} (h : k (.m (kvsD A))) : nCopyM [.d (arcsD A)] k := ⟨_, rfl, h⟩
theorem w_copyN {D : Nums} {k : DO → Prop} (h : k (.m (numsKv D))) : nCopyM [.d (numsD D)] k := ⟨_, rfl, h⟩
theorem arcs_keys (A : Arcs) : (kvsD A).map (·.1) = (A.map (·.1)).map .str := by unfold kvsD; rw [List.map_map, List.map_map]; rfl
theorem w_sortA {A : Arcs} {k : DO → Prop} (hl : A.length ≤ 40) (h : ∀ ys : List Str, ys.Perm (A.map (·.1)) → sortedS ys = true → ys.length ≤ 40 → k (.l (ys.map .str))) : nSortedD [.d (arcsD A)] k :=
  ⟨kvsD A, A.map (·.1), rfl, arcs_keys A, by rw [List.length_map]; omega, fun ys py sy => h ys py sy (by rw [py.length_eq, List.length_map]; exact hl)⟩
theorem nums_pairs {D : Nums} (nd : (D.map (·.1)).Nodup) {k : DO → Prop} (h : k (.m (numsKv D))) : nPairs [.d (.list (D.map fun p => .tuple [.str p.1, .int p.2]))] k :=
  ⟨numsKv D, by unfold numsKv; rw [List.map_map]; rfl, fun p hp => by obtain ⟨q, _, rfl⟩ := List.mem_map.mp hp; exact ⟨.inr q.1, rfl⟩, by rw [nums_keys]; exact nodup_str nd, h⟩
theorem putD_nums {D : Nums} {x : Str} {v : Int} (hx : x ∈ D.map (·.1)) : putD (numsKv D) (.inr x) (.int v) = numsKv (D.map fun p => if p.1 = x then (p.1, v) else p) := by
  have ha : ((numsKv D).any fun p => decide (keyD p.1 = some (.inr x))) = true := by
    obtain ⟨q, hq, rfl⟩ := List.mem_map.mp hx
    exact List.any_eq_true.mpr ⟨_, List.mem_map_of_mem hq, decide_eq_true rfl⟩
  unfold putD
  rw [if_pos ha]
  unfold numsKv
  rw [List.map_map, List.map_map]
  refine List.map_congr_left fun p _ => ?_
  show (if some (Sum.inr p.1 : Key) = some (.inr x) then ((PyData.str p.1, PyData.int v)) else (.str p.1, .int p.2)) = _
  by_cases e : p.1 = x
  · subst e; simp
  · rw [if_neg (fun z => e (Sum.inr.inj (Option.some.inj z)))]
    simp [e]
theorem RingOk.by_ {h : Int} {A : Arcs} (o : RingOk h A) {ys : List Str} (p : ys.Perm (A.map (·.1))) : RingOk h (arcsBy A ys) :=
  ⟨o.ok.perm (arcsBy_perm o.ok.nd p), by unfold arcsBy; rw [List.length_map, p.length_eq, List.length_map]; exact o.ln, o.h1, o.h2⟩
theorem DriftOk.by_ {h : Int} {A : Arcs} {D : Nums} (o : DriftOk h A D) {ys : List Str} (p : ys.Perm (A.map (·.1))) : DriftOk h (arcsBy A ys) D := ⟨by rw [arcsBy_names]; exact o.pm.trans p.symm, o.rg⟩
theorem WishOk.by_ {h : Int} {A : Arcs} {W : Nums} (o : WishOk h A W) {ys : List Str} (p : ys.Perm (A.map (·.1))) : WishOk h (arcsBy A ys) W := ⟨o.ln, o.nd, fun q hq => by rw [arcsBy_names]; exact p.mem_iff.mpr (o.inA q hq), o.rg⟩
theorem starts_by {h : Int} {A : Arcs} {D : Nums} {x : Str} {ys : List Str} (nd : (A.map (·.1)).Nodup) (p : ys.Perm (A.map (·.1))) (hx : x ∈ A.map (·.1)) (day : Int) : starts h (arcsBy A ys) D x day = starts h A D x day := by
  unfold starts
  rw [arcOf_perm nd (arcsBy_perm nd p) hx]
theorem dayOf_by {h : Int} {A : Arcs} {D W : Nums} {x : Str} {ys : List Str} (nd : (A.map (·.1)).Nodup) (p : ys.Perm (A.map (·.1))) (hx : x ∈ A.map (·.1)) : dayOf h (arcsBy A ys) D W x = dayOf h A D W x := by
  unfold dayOf daysL
  simp only [starts_by nd p hx]
theorem apart_congr {b c : Str → Str → Bool} : ∀ {us : List Str}, (∀ x ∈ us, ∀ y ∈ us, b x y = c x y) → apartR b us = apartR c us
  | [], _ => rfl
  | x :: r, h => by
    have e : ∀ l : List Str, (∀ y ∈ l, y ∈ r) → l.find? (b x) = l.find? (c x) := by
      intro l
      induction l with
      | nil => intro _; rfl
      | cons y q ih =>
        intro hl
        rw [List.find?_cons, List.find?_cons, h x List.mem_cons_self y (List.mem_cons_of_mem _ (hl y List.mem_cons_self)), ih fun z hz => hl z (List.mem_cons_of_mem _ hz)]
    unfold apartR
    rw [e r (fun _ h => h), apart_congr (us := r) fun x hx y hy => h x (List.mem_cons_of_mem _ hx) y (List.mem_cons_of_mem _ hy)]
theorem find_congr {α : Type} {p q : α → Bool} : ∀ {l : List α}, (∀ x ∈ l, p x = q x) → l.find? p = l.find? q
  | [], _ => rfl
  | x :: r, h => by rw [List.find?_cons, List.find?_cons, h x List.mem_cons_self, find_congr fun y hy => h y (List.mem_cons_of_mem _ hy)]
theorem due_by {h : Int} {A : Arcs} {D W : Nums} {us ys : List Str} (nd : (A.map (·.1)).Nodup) (p : ys.Perm (A.map (·.1))) (hu : ∀ x ∈ us, x ∈ A.map (·.1)) : dueD h (arcsBy A ys) D W us = dueD h A D W us := by
  have e1 : us.find? (fun x => (dayOf h (arcsBy A ys) D W x).isEmpty) = us.find? (fun x => (dayOf h A D W x).isEmpty) := find_congr fun x hx => by rw [dayOf_by nd p (hu x hx)]
  have e2 : apartR (badP h (arcsBy A ys) D W) us = apartR (badP h A D W) us := apart_congr fun x hx y hy => by unfold badP; rw [dayOf_by nd p (hu x hx), dayOf_by nd p (hu y hy)]
  have e3 : firstDay h (arcsBy A ys) D W us = firstDay h A D W us := by
    unfold firstDay
    have : (intsL h).find? (goodB h (arcsBy A ys) D W us) = (intsL h).find? (goodB h A D W us) := find_congr fun i _ => by
      unfold goodB
      rw [Bool.eq_iff_iff, List.all_eq_true, List.all_eq_true]
      exact ⟨fun z x hx => by rw [← dayOf_by nd p (hu x hx)]; exact z x hx, fun z x hx => by rw [dayOf_by nd p (hu x hx)]; exact z x hx⟩
    rw [this]
  unfold dueD
  rw [e1, e2, e3]
theorem w_eqN {D : Nums} {k : DV → Prop} (h : k (.d (.bool true))) : fEqDD (.d (.dict (numsKv D))) (.d (numsD D)) k := ⟨numsKv D, rfl, rfl, fun p hp => by obtain ⟨q, _, rfl⟩ := List.mem_map.mp hp; rfl, h⟩
theorem apart_mem {bad : Str → Str → Bool} : ∀ {us : List Str} {p : Str × Str}, apartR bad us = some p → p.1 ∈ us ∧ p.2 ∈ us
  | [], _, h => by cases h
  | x :: r, p, h => by
    unfold apartR at h
    cases e : r.find? (bad x) with
    | some y =>
      rw [e] at h
      cases h
      exact ⟨List.mem_cons_self, List.mem_cons_of_mem _ (List.mem_of_find?_eq_some e)⟩
    | none =>
      rw [e] at h
      obtain ⟨a, b⟩ := apart_mem h
      exact ⟨List.mem_cons_of_mem _ a, List.mem_cons_of_mem _ b⟩
theorem due_shape {h : Int} (hh : 1 ≤ h) {A : Arcs} {D W : Nums} {us : List Str} :
    (∃ x ∈ us, dueD h A D W us = .tuple [.str "alone", .str x]) ∨ (∃ x ∈ us, ∃ y ∈ us, dueD h A D W us = .tuple [.str "apart", .str x, .str y]) ∨
      ∃ day, 0 ≤ day ∧ day < h ∧ (∀ x ∈ us, starts h A D x day = numOf W x) ∧ dueD h A D W us = .tuple [.str "yes", .int day] := by
  unfold dueD
  cases e : us.find? (fun x => (dayOf h A D W x).isEmpty) with
  | some x => exact .inl ⟨x, List.mem_of_find?_eq_some e, rfl⟩
  | none =>
    cases e2 : apartR (badP h A D W) us with
    | some p => exact .inr (.inl ⟨p.1, (apart_mem e2).1, p.2, (apart_mem e2).2, rfl⟩)
    | none =>
      obtain ⟨day, b0, b1, g⟩ := good_day hh e e2
      have : ((intsL h).find? (goodB h A D W us)).isSome = true := List.find?_isSome.mpr ⟨day, mem_ints.mpr ⟨b0, b1⟩, g⟩
      obtain ⟨v, ev⟩ := Option.isSome_iff_exists.mp this
      have gv := List.find?_some ev
      have mv := mem_ints.mp (List.mem_of_find?_eq_some ev)
      refine .inr (.inr ⟨v, mv.1, mv.2, fun x hx => ?_, by unfold firstDay; rw [ev]; rfl⟩)
      have := List.all_eq_true.mp gv x hx
      exact (mem_days.mp (of_decide_eq_true this)).2
/-- is no dict -/
theorem isT_dict_no {d : PyData} (h : ∀ ds, d ≠ .dict ds) : isT d "dict" = false := by
  cases d with
  | dict ds => exact absurd rfl (h ds)
  | _ => rfl
end RG

/-! several except clauses, each with a name -/
namespace RG
open PySem PySem.Spec PyProof.Rows L2 PySem.Calls
/-- the clauses' wishes, one after the other -/
def wAsL (K : PySem.W.Frag) (Wout : WX) (D : Ends) : List (Value × Nat × (Addr → Value → Option Addr → TS)) → WX
  | [] => Wout
  | (c, i, ts) :: r => wAs K c i ts (wAsL K Wout D r) D
section
variable {X : Cx} {pins : List (Addr × Obj)} {σ : L2.St} {H : Hp} {D : Ends} {a : Addr} {B : Heap} {cls : Value} {d : Option Addr} {sI s' : Shared} {h3 : Heap}
/-- an exception that has come down to the clauses of this def's try -/
structure Down (X : Cx) (pins : List (Addr × Obj)) (σ : L2.St) (H : Hp) (a : Addr) (B : Heap) (cls : Value) (d : Option Addr) (s' : Shared) (h3 : Heap) : Prop where
  ok : X.Ok
  fl : HandSPX.FlyingZ B (X.env :: X.outer) a (Zc cls d) h3
  lay : ∀ h4, HandSPX.FlyingZ B (X.env :: X.outer) a (Zc cls d) h4 → s'.heap.UpToSlots h4 → Inv X pins σ H { s' with heap := h4 }
  up : s'.heap.UpToSlots h3
  na : H a = none
  nL : a ≠ X.env.locals
  nF : a ∉ X.fs
/-- what a clause is: its class, its name's slot, its suite's reading -/
structure Clause (X : Cx) (x n : Str) (c : Value) (i : Nat) (b₀ : Stmt) (suite : List Stmt) (ts : Addr → Value → Option Addr → TS) : Prop where
  hc : Names X x c
  hi : X.N[i]? = some n
  hln : X.env.kindOf n = some .local
  hsu : ∀ (a : Addr) (oe : Obj) (cls : Value) (d : Option Addr) (pn : List (Addr × Obj)), Zc cls d oe → (∃ vs, oe.data = .fields vs) → PSs (X.suite a ((a, oe) :: pn)) (b₀ :: suite) (ts a cls d)
theorem Down.inv (w : Down X pins σ H a B cls d s' h3) : Inv X pins σ H { s' with heap := h3 } := w.lay h3 w.fl w.up
theorem Down.suite (w : Down X pins σ H a B cls d s' h3) : ∃ (oe : Obj) (vs : Array Value), h3.get? a = some oe ∧ Zc cls d oe ∧ oe.data = .fields vs ∧ Inv (X.suite a ((a, oe) :: (X.pn ++ pins))) [] σ H { s' with heap := h3 } := by
  obtain ⟨oe, vs, he, hz, hd⟩ := w.fl.there
  exact ⟨oe, vs, he, hz, hd, w.inv.suite he hd w.na w.nL w.nF⟩
/-- one clause: its suite where the class fits, else the rest -/
theorem Down.clause (w : Down X pins σ H a B cls d s' h3) (hN : X.N.Nodup) {x n : Str} {c : Value} {i : Nat} {ts : Addr → Value → Option Addr → TS} {b₀ : Stmt} {suite : List Stmt} {np pos' : Pos} {hds : List ExceptHandler} (C : Clause X x n c i b₀ suite ts) {Wr : WX}
    (rest : Wr cls d σ H → wpAny (model X.prog X.w) X.A (handleBy (.ref a) X.env hds) (SP X pins D) X.xe { s' with heap := h3 }) (wish : wAs X.K c i ts Wr D cls d σ H) :
    wpAny (model X.prog X.w) X.A (handleBy (.ref a) X.env (.ExceptHandler (some (.Name x np)) (some n) (b₀ :: suite) pos' :: hds)) (SP X pins D) X.xe { s' with heap := h3 } := by
  obtain ⟨b, fits, yes, no⟩ := wish
  obtain ⟨oe, vs, he, hz, hd, SI⟩ := w.suite
  have lk : PySem.W.Looks (model X.prog X.w) h3 (typeOf (.ref a)) cls := fun A Q E s k q => wpAny_typeOf_ref (k _ _ he) (by rw [hz.1]; exact q)
  refine wpAny_handleBy_cons (codeAny_handlers_test ?_) (by intro q; cases q)
  have name : ∀ {Q E : Value → Shared → Prop}, Q c { s' with heap := h3 } → wpAny (model X.prog X.w) (X.A.mark (some (.ref a))) (eval (.Name x np) X.env) Q E { s' with heap := h3 } := fun {Q E} q => by
    rcases C.hc with ⟨g, db, m | ⟨m, v, nn⟩⟩
    · exact ld_glob SI g m q db
    · exact ld_blt SI g m v q nn db
  refine name ((PySem.W.exm_one (M := model X.prog X.w) w.inv.kIn lk fits).here ?_)
  cases b with
  | false => exact rest (no rfl)
  | true =>
    refine codeAny_handlers_suite_as ?_
    refine HandSPX.lands_againZ w.fl fun h4 fl4 up4 => ?_
    have w4 : Down X pins σ H a B cls d s' h4 := ⟨w.ok, fl4, w.lay, w.up.trans up4, w.na, w.nL, w.nF⟩
    obtain ⟨oe4, vs4, he4, hz4, hd4, S4⟩ := w4.suite
    refine store_ok (X := X.suite a ((a, oe4) :: (X.pn ++ pins))) (v := .ref a) S4 hN C.hi (.inl C.hln) rfl (fun s5 S5 => ?_) (.inr C.hln)
    have leave : ∀ {τ : L2.St} {G : Hp} {s6 : Shared} {Q : Shared → Prop}, Inv (X.suite a ((a, oe4) :: (X.pn ++ pins))) [] τ G s6 → (∀ s7, Inv X pins (τ.set i none) G s7 → Q s7) →
        wpAny (model X.prog X.w) X.A (do bindName X.env n .none; unbindBehindTheSuite X.env n pos') (fun _ s7 => Q s7) X.xe s6 := fun S q => gone_ok (S.unsuite w.ok) hN C.hi C.hln q
    refine wpAny_mono ((C.hsu a oe4 cls d (X.pn ++ pins) hz4 ⟨_, hd4⟩).run [] s5 _ H _ S5 (yes rfl a w.na)) (fun f s6 end_ => ?_) (fun _ _ z => False.elim z)
    match f, end_ with
    | .next, ⟨τ, G, S, q⟩ => exact leave S fun s7 J => ⟨_, _, J, q⟩
    | .brk, ⟨τ, G, S, q⟩ => exact leave S fun s7 J => ⟨_, _, J, q⟩
    | .cont, ⟨τ, G, S, q⟩ => exact leave S fun s7 J => ⟨_, _, J, q⟩
    | .ret u, ⟨v, τ, G, S, r, q⟩ => exact leave S fun s7 J => ⟨_, _, _, J, r, q⟩
end
section
variable {X : Cx} {pos : Pos} {tb : WX → TS} {body : List Stmt}
/-- two clauses, each with a name; nothing else comes out of the body -/
theorem ps_try_as2 (hs : X.stack = X.env :: X.outer) (hf : X.env.frame = some X.env.locals) (hN : X.N.Nodup)
    {x1 n1 x2 n2 : Str} {c1 c2 : Value} {i1 i2 : Nat} {ts1 ts2 : Addr → Value → Option Addr → TS} {b1 b2 : Stmt} {su1 su2 : List Stmt} {np1 np2 p1 p2 : Pos} (C1 : Clause X x1 n1 c1 i1 b1 su1 ts1) (C2 : Clause X x2 n2 c2 i2 b2 su2 ts2)
    (hb : ∀ (W : WX) (pn : List (Addr × Obj)) (xe : Value → Shared → Prop), Takes (X.tr pn xe) W → PassesOwn (model X.prog X.w) X.A X.env xe → PSs (X.tr pn xe) body (tb W)) :
    PS X (.Try body [.ExceptHandler (some (.Name x1 np1)) (some n1) (b1 :: su1) p1, .ExceptHandler (some (.Name x2 np2)) (some n2) (b2 :: su2) p2] [] [] pos)
      (fun D σ H => tb (wAsL X.K (fun _ _ _ _ => False) D [(c1, i1, ts1), (c2, i2, ts2)]) D σ H) := by
  refine ⟨fun pins s σ H D I h => ?_⟩
  have frames : X.A.frames = some (X.env :: X.outer) := by rw [I.ok.frames, hs]
  refine wpAny_Try_except ?_
  refine wpAny_mono ((hb _ (X.pn ++ pins) (fun e s₁ => wpAny (model X.prog X.w) X.A (noteFrame e X.env) (fun _ s₂ => wpAny (model X.prog X.w) X.A (setFlight e none) (fun _ s₃ =>
    wpAny (model X.prog X.w) X.A (handleBy e X.env _) (SP X pins D) X.xe s₃) X.xe s₂) X.xe s₁) (fun u s' xx => ?_) PassesOwn.looking).run [] s σ H D (I.toTry _) h) (fun f s1 end_ => ?_) (fun e s1 he => he)
  · obtain ⟨a, B, sI, _, τ, G, cls, d, rfl, J0, nb, up, sky, na, os, ag, wish⟩ := xx
    have J := J0.ofTry I.ok
    rw [show (X.tr (X.pn ++ pins) _).stack = X.env :: X.outer from hs] at sky
    refine Sky.land Zc.steady frames hf sky fun h3 fl up3 => ?_
    obtain ⟨oe, vs, he, hz, hd⟩ := fl.there
    have away : a ∉ frs (X.env :: X.outer) := fun m => by
      obtain ⟨_, o, e, hn⟩ := fl.2.2.1.mem m
      rw [he] at e
      cases e
      exact hn _ hd
    have w : Down X pins τ G a B cls d s' h3 := ⟨I.ok, fl, fun h4 fl4 up4 => J.landed nb fl4.1 (up.trans up4) os ag, up3, na,
      fun z => away (List.mem_filterMap.mpr ⟨X.env, List.mem_cons_self, by rw [hf, z]⟩), fun m => by
        obtain ⟨e, he, q⟩ := List.mem_filterMap.mp m
        exact away (List.mem_filterMap.mpr ⟨e, List.mem_cons_of_mem _ he, q⟩)⟩
    exact w.clause hN C1 (fun wish => w.clause hN C2 (fun z => z.elim) wish) wish
  · match f, end_ with
    | .next, ⟨τ, G, J, q⟩ => exact wpAny_execs_nil ⟨τ, G, J.ofTry I.ok, q⟩
    | .brk, ⟨τ, G, J, q⟩ => exact ⟨τ, G, J.ofTry I.ok, q⟩
    | .cont, ⟨τ, G, J, q⟩ => exact ⟨τ, G, J.ofTry I.ok, q⟩
    | .ret u, ⟨v, τ, G, J, r, q⟩ => exact ⟨v, τ, G, J.ofTry I.ok, r, q⟩
end
end RG

/-! the data layer beside the lambdas' table; a lambda handed on from within a comprehension -/
namespace RG
open PySem PySem.Spec PyProof.Rows L2 PySem.Calls
section
variable {C : Addr} {F M S S' U : List Addr} {H H' H1 : Hp} {σ : L2.St} {δ : DSt} {n : Nat} {P : Addr} {q : Str}
/-- the table at P and its code objects: none of them in U -/
def TabU (U : List Addr) (H : Hp) (P : Addr) (q : Str) : Prop := P ∉ U ∧ ∃ ps : Array Value, H P = some (.tbl ps) ∧ TriplesOk ps.toList ∧ ∀ (pos : Pos) (cv : Value), codeAmong pos ps.toList = some cv → ∃ c, cv = .ref c ∧ c ∉ U ∧ H c = some (LamX.CodeO c q)
theorem TabU.tabs (h : TabU U H P q) : LamX.Tabs [(P, q)] H := fun p hp => by
  rw [List.mem_singleton.mp hp]
  obtain ⟨_, ps, e, t, hc⟩ := h
  exact ⟨ps, e, t, fun pos cv z => by obtain ⟨c, e1, _, e2⟩ := hc pos cv z; exact ⟨c, e1, e2⟩⟩
theorem TabU.stp (g : Stp M S H S' H') (h : TabU (S ++ M) H P q) : TabU (S' ++ M) H' P q := by
  obtain ⟨hP, ps, e, t, hc⟩ := h
  have out : ∀ {a : Addr} {o : HO}, a ∉ S ++ M → H a = some o → a ∉ S' ++ M := fun {a o} ha e z => by
    rcases List.mem_append.mp z with z | z
    · rcases g.nw a z with y | y
      · exact ha (List.mem_append_left _ y)
      · rw [y] at e; cases e
    · exact ha (List.mem_append_right _ z)
  refine ⟨out hP e, ps, g.nx.kp P _ hP e, t, fun pos cv z => ?_⟩
  obtain ⟨c, e1, n1, e2⟩ := hc pos cv z
  exact ⟨c, e1, out n1 e2, g.nx.kp c _ n1 e2⟩
theorem TabU.less (h : TabU U H P q) {T : List Addr} (g : ∀ a ∈ T, a ∈ U) : TabU T H P q := by
  obtain ⟨hP, ps, e, t, hc⟩ := h
  refine ⟨fun z => hP (g _ z), ps, e, t, fun pos cv z => ?_⟩
  obtain ⟨c, e1, n1, e2⟩ := hc pos cv z
  exact ⟨c, e1, fun z => n1 (g _ z), e2⟩
/-- none of U is a table or a code object -/
theorem TabU.of (t : LamX.Tabs [(P, q)] H) (hU : ∀ a ∈ U, (∀ ps, H a ≠ some (.tbl ps)) ∧ ∀ c r, H a ≠ some (LamX.CodeO c r)) : TabU U H P q := by
  obtain ⟨ps, e, tr, hc⟩ := t (P, q) (List.mem_singleton.mpr rfl)
  refine ⟨fun z => (hU P z).1 ps e, ps, e, tr, fun pos cv z => ?_⟩
  obtain ⟨c, e1, e2⟩ := hc pos cv z
  exact ⟨c, e1, fun z => (hU c z).2 _ _ e2, e2⟩
theorem TabU.spr (t : LamX.Tabs [(P, q)] H) {s : Addr} {m : Nat} (hs : Spr H s m) : TabU [s] H P q := TabU.of t fun a ha => by
  rw [List.mem_singleton.mp ha]
  obtain ⟨x, y, z, e, _⟩ := hs.ex
  exact ⟨(fun ps h => by rw [e] at h; cases h), fun c r h => by rw [e] at h; unfold LamX.CodeO at h; cases h⟩
/-- no slot holds a thing of one's own -/
def valsB (δ : DSt) : Bool := δ.all fun o => match o with
  | some (.l _) => false
  | some (.m _) => false
  | _ => true
theorem Rel.clean (r : Rel C F M S H σ δ n) (h : valsB δ = true) : Rel C F M [] H σ δ n := by
  have hv : ∀ (i : Nat) (o : DO), δ[i]? = some (some o) → ∃ x, o = .v x := fun i o e => by
    have := List.all_eq_true.mp h _ (List.mem_of_getElem? e)
    cases o with
    | v x => exact ⟨x, rfl⟩
    | l xs => cases this
    | m kvs => cases this
  refine ⟨fun a ha => r.al a (List.mem_append_right _ ha), r.mf, fun a ha => by (cases ha), r.sp, r.ln, fun i o e => ?_, fun i j o o' a _ e1 _ w _ _ _ => ?_⟩
  · obtain ⟨v, ev, sh⟩ := r.sh i o e
    obtain ⟨x, rfl⟩ := hv i o e
    exact ⟨v, ev, ShV.sub (fun a ha => List.mem_append_right _ ha) sh⟩
  · obtain ⟨x, rfl⟩ := hv i o e1
    exact w
/-- all but tables stay -/
theorem ext_rx (e : LamX.ExtN H H1) : Rx U H H1 := fun a u _ nf r => by
  rcases r with z | ⟨o, z⟩
  · exact .inl (e a _ z nf.tb)
  · exact .inr ⟨o, e a _ z fun ps y => by cases y⟩
theorem Rel.ext (r : Rel C F M S H σ δ n) (e : LamX.ExtN H H1) (al : Al (S ++ F) H1) : Rel C F M S H1 σ δ n := by
  refine ⟨al, r.mf, r.dj, fun s hs => ?_, r.ln, fun i o eo => ?_, r.nd⟩
  · obtain ⟨x, y, z, es, q⟩ := (r.sp s hs).ex
    exact ⟨x, y, z, e _ _ es (fun ps z => by cases z), q⟩
  · obtain ⟨v, ev, h⟩ := r.sh i o eo
    refine ⟨v, ev, ?_⟩
    cases o with
    | v x =>
      cases x with
      | d x => exact Im.rx (ext_rx e) _ h
      | ring k A =>
        obtain ⟨a, ea, na, dx, w, e1, im⟩ := h
        exact ⟨a, ea, na, dx, w, e _ _ e1 (fun ps z => by cases z), Im.rx (ext_rx e) _ im⟩
      | s => exact h
      | ty t => exact h
      | raw u => exact h
    | l xs => obtain ⟨a, vs, ea, ha, e1, im⟩ := h; exact ⟨a, vs, ea, ha, e _ _ e1 (fun ps z => by cases z), ImAll.rx (ext_rx e) _ im⟩
    | m kvs => obtain ⟨a, ks, ea, ha, e1, nd, im⟩ := h; exact ⟨a, ks, ea, ha, e _ _ e1 (fun ps z => by cases z), nd, ImKv.rx (ext_rx e) _ im⟩
end
section
variable {X : Cx}
open LamX
/-- pe_met in a comprehension's block -/
theorem pe_metB {T2 : V → (XK → Hp → VK → Prop) → Hp → VK → Prop} {x a b y qq : Str} {g c P : Addr} {k i : Nat} {pg : Arguments} {bg : List Stmt} {sg : Scope} {dV kV doc pm cdv ct oc : Value} {an od : Option Addr} {osl : Array (Option Value)} {Ng : List Str}
    {params : Arguments} {body : Expr} {scope : Scope} {t : XK → TE} {p lpos ypos pos : Pos} (hm : X.mg x = some (.ref g)) (hkp : PySem.W.keepIn X.K (.ref g) = true) (lk : X.K.lookup g = some ⟨oc, od, .func (PySem.W.fnOf x x pg bg sg dV kV doc pm an cdv ct), osl⟩)
    (hcg : PySem.W.codeIn X.K cdv x = true) (hbi : L2.Binds X.K (PySem.W.fnOf x x pg bg sg dV kV doc pm an cdv ct) [a, b] []) (Sg : FnScope Ng [a, b] sg) (hNg : Ng[0]? = some a) (hva : Vis sg a) (hG : ∀ q, Gives2 X Ng x sg g cdv bg a q T2)
    (TB : TabB X.base X.mg c P) (hcode : X.env.code = .ref c) (hr : Room (k + 4) X.A) (L : LamS X.env.scope scope) (hdef : defaultsOf params X.env = ([], []))
    (hbd : ∀ (q : Str) (cl : List (Str × Addr)) (pm cv ctv : Value), bindArgs (PySem.W.kla_fn "<lambda>" q params body scope cl pm cv ctv) ⟨[], []⟩ = pure [])
    (hin : ∀ (A : Around) (outer : List Env) (s : Shared) (H : Hp) (E : XK) (f c1 : Addr), Room (k + 2) (A.deeper (lamEnv X scope s.heap.objs.size f c1)) → PE (lamCx X A outer s H E scope f c1) body (t E))
    (hy : X.N[i]? = some y) (hvy : Vis X.env.scope y) (hqq : X.env.qual = qq) (hg : Gl X x := by rfl) (hdb : (x == ("__debug__" : Str)) = false := by decide) (hd : (a == ("__debug__" : Str)) = false := by decide) (hcd : (a == ("__classdict__" : Str)) = false := by decide) (hdy : (y == ("__debug__" : Str)) = false := by decide) (hcy : (y == ("__classdict__" : Str)) = false := by decide) (hso : X.stack = X.outer := by rfl) :
    PE X (.Call (.Name x p) [.Lambda params body scope lpos, .Name y ypos] [] pos) (tMet [(P, qq ++ "<lambda>")] i T2 t) := by
  subst hqq
  refine ⟨fun pins s σ H Q I ⟨hT, v, hσ, h⟩ => ?_⟩
  refine wpAny_Call_Name_kw (ld_glob I hg hm ?_ hdb)
  refine PySem.W.callWith_K (h₀ := X.base) I.ok.mod.kin hkp ?_ (by rfl) (by rfl)
  show wpAny _ _ (spliced ((false, eval (.Lambda params body scope lpos) X.env) :: backTo pos (starEach [.Name y ypos] X.env))) _ _ s
  refine Calls.spliced_cons (lam_make2 I TB hcode tmem tuni hT hdef (L.has I.ok) fun f c1 pm1 ctv H1 s1 I1 eN T1 hf hfn hfr hco => ?_)
  have floc : f ≠ X.env.locals := fun z => by
    obtain ⟨m, ⟨o, es, ep, e, ed, _⟩, _⟩ := I1.loc
    have e : s1.heap.get? X.env.locals = some o := e
    rw [← z, hf] at e
    cases e
    cases ed
  have Ip : Inv X ((f, PySem.W.kla_obj "<lambda>" (X.env.qual ++ "<lambda>") params body scope (cloFrom X.env.cells scope.names []) pm1 c1 ctv) :: pins) σ H1 s1 := I1.pins_of fun z hz => by
    rcases List.mem_cons.mp hz with e | e
    · subst e
      rw [hso] at hfr
      exact ⟨hf, hfn, floc, hfr, fun u e2 => by cases e2⟩
    · exact I1.pin z (List.mem_append_right _ e)
  refine Calls.spliced_cons (thn ((pe_var (X := X) (pos := ypos) (i := i) hy hvy hdy hcy).run _ s1 σ H1 (fun w G => w = v ∧ G = H1) Ip ⟨v, hσ, rfl, rfl⟩) ?_)
  rintro u s2 ⟨w, G, I2, ru, ew, eG⟩
  subst ew
  subst eG
  have hf2 := (I2.pin (f, PySem.W.kla_obj "<lambda>" (X.env.qual ++ "<lambda>") params body scope (cloFrom X.env.cells scope.names []) pm1 c1 ctv) (List.mem_append_right _ List.mem_cons_self)).1
  have I3 : Inv X pins σ G s2 := I2.pins_of fun z hz => I2.pin z (List.mem_append_right _ (List.mem_cons_of_mem _ hz))
  refine Calls.spliced_nil ⟨I3.kIn, ?_⟩
  have done : codeAny (model X.prog X.w) X.A (.call (.ref g) ⟨[.ref f, u], []⟩) (CR CX0 X.stack X.prog X.w G s2 Q E0) s2 := by
    refine run_ofS (N := Ng) (ps := [a, b]) (us := [.ref f, u]) (vs := [.ref f, w]) lk hcg Sg (k := k + 3) hr I3.env0 (hbi s2 [.ref f, u] I3.kIn rfl) (.cons rfl (.cons ru .nil)) rfl fun hr2 => ?_
    exact hG _ f c1 s2 G w Q (fun E H' Q' => t E σ H' Q') (hr2.mono (by omega)) (fun W pn xe p1 p2 tk => act2 (i := 0) I3 L hf2 hfn hfr (hbd _ _ _ _ _) tk (hr2.mono (by omega)) (fun A outer s H E hr3 => hin A outer s H E f c1 hr3) hNg hva hd hcd) hco (h G eN T1)
  refine wpAny_call (codeAny_mono done ?_)
  intro r s3 hq
  match r, hq with
  | .error e, hq => exact False.elim hq
  | .ok (.ret u), hq => exact I3.after hq
  | .ok .next, hq => exact False.elim hq
  | .ok .brk, hq => exact False.elim hq
  | .ok .cont, hq => exact False.elim hq
end
end RG

/-! == and != of nested lists -/
namespace RG
open PySem PySem.Spec PyProof.Rows L2
theorem keqD {X : Cx} {k : Nat} (K : PySem.W.Frag) (hr : Room k X.A) (hK : X.K = K := by rfl) : OpR X (compareOp .Eq) (rEqD K) := by
  subst hK; exact op_eqD (by have := hr.un; show X.A.units + 64 < cLine; omega)
theorem kneD {X : Cx} {k : Nat} (K : PySem.W.Frag) (hr : Room k X.A) (hK : X.K = K := by rfl) : OpR X (compareOp .NotEq) (rNeD K) := by
  subst hK; exact op_neD (by have := hr.un; show X.A.units + 64 < cLine; omega)
theorem eqv_wb (w : Str) (b : Bool) : PyData.eqv (.list [.str w, .bool b]) (.list [.str w, .bool true]) = b := by cases b <;> simp [PyData.eqv, PyData.eqvAll]
theorem s_neD {K : PySem.W.Frag} {H : Hp} {p r : Addr} {w : Str} {b : Bool} {Q : VK} (hp : H p = some (.lst [.str w, .bl b])) (hr : H r = some (.lst [.str w, .bl true])) (hs : ∀ b, SeqAt.shaped (.list [.str w, .bool b]) = true) (q : Q (.bl !b) H) : rNeD K (.ref p) (.ref r) H Q :=
  ⟨.list [.str w, .bool b], .list [.str w, .bool true], .lst (.inl (.of hp)) (.cons (.str w) (.cons (.bl b) .nil)), .lst (.inl (.of hr)) (.cons (.str w) (.cons (.bl true) .nil)), hs b, hs true, by rw [eqv_wb]; exact q⟩
theorem s_eqD {K : PySem.W.Frag} {H : Hp} {p r : Addr} {w : Str} {b : Bool} {Q : VK} (hp : H p = some (.lst [.str w, .bl b])) (hr : H r = some (.lst [.str w, .bl true])) (hs : ∀ b, SeqAt.shaped (.list [.str w, .bool b]) = true) (q : Q (.bl b) H) : rEqD K (.ref p) (.ref r) H Q :=
  ⟨.list [.str w, .bool b], .list [.str w, .bool true], .lst (.inl (.of hp)) (.cons (.str w) (.cons (.bl b) .nil)), .lst (.inl (.of hr)) (.cons (.str w) (.cons (.bl true) .nil)), hs b, hs true, by rw [eqv_wb]; exact q⟩
theorem shaped_drifts : ∀ b, SeqAt.shaped (.list [.str "drifts", .bool b]) = true := fun b => by cases b <;> decide +kernel
theorem shaped_wishes : ∀ b, SeqAt.shaped (.list [.str "wishes", .bool b]) = true := fun b => by cases b <;> decide +kernel
end RG

/-! pieces of a heap walk done over data -/
namespace RG
open PySem PySem.Spec PyProof.Rows L2
section
variable {C : Addr} {F M S : List Addr} {H : Hp} {σ : L2.St} {δ : DSt} {n : Nat}
theorem TD.use {te : TE} {de : DTE} {R : DV → DSt → Nat → Prop} {Q : VK} (h : TD C te de) (r : Rel C F M S H σ δ n) (hd : de δ n R)
    (hq : ∀ v x S' H' δ' n', Stp M S H S' H' → Rel C F M S' H' σ δ' n' → ShV C (S' ++ F) M H' v x → R x δ' n' → Q v H') : te σ H Q := h r hd hq
theorem TDT.use {tt : TT} {dt : DTT} {R : Bool → DSt → Nat → Prop} {Q : Bool → Hp → Prop} (h : TDT C tt dt) (r : Rel C F M S H σ δ n) (hd : dt δ n R)
    (hq : ∀ b S' H' δ' n', Stp M S H S' H' → Rel C F M S' H' σ δ' n' → R b δ' n' → Q b H') : tt σ H Q := h r hd hq
/-- a statement that goes on, or returns what D asks -/
theorem TDS.use {ts : TS} {ds : DTS} {D : Ends} {N : DSt → Nat → Prop} {T : DV → Nat → Prop} (h : TDS C ts ds) (r : Rel C F M S H σ δ n) (hd : ds { nx := N, rt := T } δ n)
    (hn : ∀ S' H' σ' δ' n', Stp M S H S' H' → Rel C F M S' H' σ' δ' n' → N δ' n' → D.nx σ' H')
    (hr : ∀ v x S' H' n', Stp M S H S' H' → (∀ s ∈ M, Spr H' s n') → ShV C (S' ++ F) M H' v x → T x n' → D.rt v H') : ts D σ H :=
  h r hd hn hr (fun _ _ _ _ _ _ _ z => z.elim) (fun _ _ _ _ _ _ _ z => z.elim)
end
end RG

/-! the data layer: displays of dicts -/
namespace RG
open PySem PySem.Spec PyProof.Rows L2
section
variable {C : Addr}
def dPairs : List (DTE × DTE) → DSt → Nat → (List (DV × DV) → DSt → Nat → Prop) → Prop
  | [], δ, n, R => R [] δ n
  | (dk, dv) :: r, δ, n, R => dk δ n fun x δ1 n1 => dv δ1 n1 fun y δ2 n2 => dPairs r δ2 n2 fun ps δ3 n3 => R ((x, y) :: ps) δ3 n3
inductive TDPs (C : Addr) : List (TE × TE) → List (DTE × DTE) → Prop
  | nil : TDPs C [] []
  | cons {tk tv : TE} {dk dv : DTE} {ts : List (TE × TE)} {ds : List (DTE × DTE)} : TD C tk dk → TD C tv dv → TDPs C ts ds → TDPs C ((tk, tv) :: ts) ((dk, dv) :: ds)
inductive ShPs (C : Addr) (U M : List Addr) (H : Hp) : List (V × V) → List (DV × DV) → Prop
  | nil : ShPs C U M H [] []
  | cons {v w : V} {x y : DV} {ps : List (V × V)} {xs : List (DV × DV)} : ShV C U M H v x → ShV C U M H w y → ShPs C U M H ps xs → ShPs C U M H ((v, w) :: ps) ((x, y) :: xs)
theorem TDPs.use {ts : List (TE × TE)} {ds : List (DTE × DTE)} (h : TDPs C ts ds) : ∀ {F M S : List Addr} {H : Hp} {σ : L2.St} {δ : DSt} {n : Nat} {R : List (DV × DV) → DSt → Nat → Prop} {Q : List (V × V) → Hp → Prop}, Rel C F M S H σ δ n → dPairs ds δ n R →
    (∀ ps xs S' H' δ' n', Stp M S H S' H' → Rel C F M S' H' σ δ' n' → ShPs C (S' ++ F) M H' ps xs → R xs δ' n' → Q ps H') → tPairs ts σ H Q := by
  induction h with
  | nil => intro F M S H σ δ n R Q r hd hq; exact hq _ _ _ _ _ _ .refl r .nil hd
  | @cons tk tv dk dv ts ds hk hv _ ih =>
    intro F M S H σ δ n R Q r hd hq
    exact hk r hd fun v x S1 H1 δ1 n1 g1 r1 s1 hd1 => hv r1 hd1 fun w y S2 H2 δ2 n2 g2 r2 s2 hd2 => ih r2 hd2 fun ps xs S3 H3 δ3 n3 g3 r3 s3 hd3 =>
      hq _ _ _ _ _ _ ((g1.trans g2).trans g3) r3 (.cons (ShV.stp (g2.trans g3) r1.mf s1) (ShV.stp g3 r2.mf s2) s3) hd3
def mergeD (kvs : List (Key × PyData)) : List (PyData × PyData) := kvs.foldl (fun acc kv => putD acc kv.1 kv.2) []
def dDisp (ds : List (DTE × DTE)) : DTF := fun δ n R => dPairs ds δ n fun xs δ' n' => ∃ kvs : List (Key × PyData), xs = kvs.map (fun kv => (.d (kD kv.1), .d kv.2)) ∧ kvs.length ≤ 15 ∧ R (.m (mergeD kvs)) δ' n'
theorem shps_kv {U M : List Addr} {H : Hp} : ∀ {kvs : List (Key × PyData)} {ps : List (V × V)}, ShPs C U M H ps (kvs.map fun kv => (.d (kD kv.1), .d kv.2)) →
    ∃ ks : List (Key × V), ps = ks.map (fun kv => (kV kv.1, kv.2)) ∧ ks.length = kvs.length ∧ ∀ {T : List Addr} {H' : Hp} {acc : List (Key × V)} {dacc : List (PyData × PyData)}, (acc.map (·.1)).Nodup → ImKv T H' acc dacc → (∀ v d, Im U H v d → Im T H' v d) →
      ((mergeK acc ks).map (·.1)).Nodup ∧ ImKv T H' (mergeK acc ks) (kvs.foldl (fun acc kv => putD acc kv.1 kv.2) dacc)
  | [], ps, h => by
    cases h
    exact ⟨[], rfl, rfl, fun nd im _ => ⟨nd, im⟩⟩
  | kv :: r, ps, h => by
    rw [List.map_cons] at h
    cases h with
    | @cons v w x y ps xs a b t =>
      obtain ⟨ks, rfl, hl, hk⟩ := shps_kv t
      obtain rfl := keyD_ok (ImR.of a) (keyD_kD kv.1)
      refine ⟨(kv.1, w) :: ks, rfl, by rw [List.length_cons, List.length_cons, hl], fun {T H' acc dacc} nd im up => ?_⟩
      exact hk (putK_nd nd) (im.putD (up _ _ b)) up
theorem tdf_disp {ts : List (TE × TE)} {ds : List (DTE × DTE)} (h : TDPs C ts ds) : TDF C (tDisp ts) (dDisp ds) := fun {F M S H σ δ n R Q} r hd hq p np => by
  have pF : p ∉ F := fun z => r.al p (List.mem_append_right _ z) np
  have pM : p ∉ M := fun z => pF (r.mf p z)
  have g0 : Nx [] H (upd H p (.dK [])) := .new np
  have rF := r.inF np g0 (by rw [upd_same]; simp)
  refine h.use rF hd fun ps xs S1 H1 δ1 n1 g1 r1 s1 ⟨kvs, ex, hl, hR⟩ => ?_
  subst ex
  have pS : p ∉ S1 := fun z => r1.dj p z List.mem_cons_self
  have pSM : p ∉ S ++ M := fun z => (List.mem_append.mp z).elim (fun z => r.al p (List.mem_append_left _ z) np) pM
  have e1 : H1 p = some (.dK []) := g1.nx.kp p _ pSM upd_same
  obtain ⟨ks, rfl, hk, im⟩ := shps_kv s1
  refine ⟨e1, ks, rfl, by omega, ?_⟩
  have gP : Nx [p] H1 (upd H1 p (.dK (mergeK [] ks))) := .put (by simp)
  have r2 := r1.stp gP (by simp) fun s hs => (r1.sp s hs).nx gP (fun z => pM (by rw [← List.mem_singleton.mp z]; exact hs))
  have gT : Stp M S H S1 (upd H1 p (.dK (mergeK [] ks))) := by
    have a : Stp M S (upd H p (.dK [])) S1 H1 := g1
    refine ⟨⟨fun c o hc e => ?_, fun c hc => ?_⟩, fun c hc => ?_⟩
    · have ne := ne_of_none e np
      rw [upd_ne ne]
      exact a.nx.kp c o hc (by rw [upd_ne ne]; exact e)
    · by_cases e : c = p
      · rw [e, upd_same]; simp
      · rw [upd_ne e]; exact a.nx.th c (by rw [upd_ne e]; exact hc)
    · rcases a.nw c hc with z | z
      · exact .inl z
      · by_cases e : c = p
        · rw [e, upd_same] at z; cases z
        · rw [upd_ne e] at z; exact .inr z
  have gU : Nx (S1 ++ p :: F) H1 (upd H1 p (.dK (mergeK [] ks))) := .put (mem_sw.mpr List.mem_cons_self)
  obtain ⟨nd, ik⟩ := im (T := p :: (S1 ++ F)) (H' := upd H1 p (.dK (mergeK [] ks))) (acc := []) (dacc := []) List.nodup_nil .nil fun v d i => Im.sub (fun a ha => .inl (mem_sw.mpr ha)) _ (Im.nx gU i)
  exact hq p (.m (mergeD kvs)) S1 _ δ1 n1 gT (r2.outF r.mf) (r2.inS r.mf pF) np pS pF ⟨_, upd_same, nd, ik⟩ hR
end
theorem w_dDisp {ds : List (DTE × DTE)} {R : DO → DSt → Nat → Prop} {δ : DSt} {n : Nat} (h : dPairs ds δ n fun xs δ' n' => ∃ kvs : List (Key × PyData), xs = kvs.map (fun kv => (.d (kD kv.1), .d kv.2)) ∧ kvs.length ≤ 15 ∧ R (.m (mergeD kvs)) δ' n') : dDisp ds δ n R := h
theorem w_pNil {R : List (DV × DV) → DSt → Nat → Prop} {δ : DSt} {n : Nat} (h : R [] δ n) : dPairs [] δ n R := h
theorem w_pCons {dk dv : DTE} {r : List (DTE × DTE)} {R : List (DV × DV) → DSt → Nat → Prop} {δ : DSt} {n : Nat} (h : dk δ n fun x δ1 n1 => dv δ1 n1 fun y δ2 n2 => dPairs r δ2 n2 fun ps δ3 n3 => R ((x, y) :: ps) δ3 n3) : dPairs ((dk, dv) :: r) δ n R := h
end RG

namespace RG
open PySem PySem.Spec PyProof.Rows L2
/-- a draw: a number below many -/
def sp_Ldraw (_ : PySem.W.Frag) : Sp := fun vs H Q _ => ∃ (s : Addr) (n : Nat) (m : Int), vs = [.ref s, .int m] ∧ Spr H s n ∧ n ≤ 100000000000 ∧ 0 < m ∧ m < 1073741824 ∧
  ∀ (d : Int) (H' : Hp), 0 ≤ d → d < m → Nx [s] H H' → Spr H' s (n + 1) → Q (.int d) H'
def W_Ldraw : WP := fun xs n R => ∃ m : Int, xs = [.s, .d (.int m)] ∧ n ≤ 100000000000 ∧ 0 < m ∧ m < 1073741824 ∧ ∀ d : Int, 0 ≤ d → d < m → R (.d (.int d)) (n + 1)
theorem imp_Ldraw {K : PySem.W.Frag} {C : Addr} (vs : List V) (H : Hp) (Q : VK) (E : XK) (h : spW C W_Ldraw vs H Q E) : sp_Ldraw K vs H Q E := by
  obtain ⟨F, M, xs, n, R, al, mf, sp, sh, ⟨m, rfl, hn, h0, h1, hR⟩, hq⟩ := h
  obtain ⟨s, vs, rfl, rfl, sh⟩ := shvs_s sh
  obtain ⟨v, vs, rfl, i1, sh⟩ := shvs_d sh
  cases sh; cases i1
  exact ⟨s, n, m, rfl, sp s (by simp), hn, h0, h1, fun d H' d0 d1 g hs => hq _ (.d (.int d)) (n + 1) H' g (by simpa using hs) (Im.int d) (hR d d0 d1)⟩
/-- one of the items of a list -/
def sp_Lpick (K : PySem.W.Frag) : Sp := fun vs H Q _ => ∃ (s a : Addr) (n : Nat) (xs : List V), vs = [.ref s, .ref a] ∧ Spr H s n ∧ n ≤ 100000000000 ∧ SqL K H a xs ∧ a ≠ s ∧ 0 < xs.length ∧ xs.length < 1000000 ∧
  ∀ (x : V) (H' : Hp), x ∈ xs → Nx [s] H H' → Spr H' s (n + 1) → Q x H'
def W_Lpick : WP := fun xs n R => ∃ ds, xs = [.s, .d (.list ds)] ∧ n ≤ 100000000000 ∧ 0 < ds.length ∧ ds.length < 1000000 ∧ ∀ d ∈ ds, R (.d d) (n + 1)
theorem imp_Lpick {K : PySem.W.Frag} {C : Addr} (vs : List V) (H : Hp) (Q : VK) (E : XK) (h : spW C W_Lpick vs H Q E) : sp_Lpick K vs H Q E := by
  obtain ⟨F, M, xs, n, R, al, mf, sp, sh, ⟨ds, rfl, hn, h0, h1, hR⟩, hq⟩ := h
  obtain ⟨s, vs, rfl, rfl, sh⟩ := shvs_s sh
  obtain ⟨v, vs, rfl, i1, sh⟩ := shvs_d sh
  cases sh
  cases i1 with
  | @lst a ws _ na rd im =>
    refine ⟨s, a, n, ws, rfl, sp s (by simp), hn, .inl rd, fun z => na (by rw [z]; exact mf s (by simp)), by rw [im.length]; exact h0, by rw [im.length]; exact h1, fun x H' hx g hs => ?_⟩
    obtain ⟨d, hd, i⟩ := im.mem hx
    exact hq _ (.d d) (n + 1) H' g (by simpa using hs) (i.nx (g.mono mf)) (hR d hd)
/-- the items in some order, a new list -/
def sp_Lmixed (K : PySem.W.Frag) : Sp := fun vs H Q _ => ∃ (s a : Addr) (n : Nat) (xs : List V), vs = [.ref s, .ref a] ∧ Spr H s n ∧ n ≤ 100000000 ∧ SqL K H a xs ∧ a ≠ s ∧ xs.length < 100000 ∧
  ∀ (p : Addr) (ys : List V) (H' : Hp), H p = none → ys.Perm xs → H' p = some (.lst ys) → Nx [s] H H' → Spr H' s (n + xs.length) → Q (.ref p) H'
def W_Lmixed : WP := fun xs n R => ∃ ds, xs = [.s, .d (.list ds)] ∧ n ≤ 100000000 ∧ ds.length < 100000 ∧ ∀ es : List PyData, es.Perm ds → R (.d (.list es)) (n + ds.length)
theorem imp_Lmixed {K : PySem.W.Frag} {C : Addr} (vs : List V) (H : Hp) (Q : VK) (E : XK) (h : spW C W_Lmixed vs H Q E) : sp_Lmixed K vs H Q E := by
  obtain ⟨F, M, xs, n, R, al, mf, sp, sh, ⟨ds, rfl, hn, h1, hR⟩, hq⟩ := h
  obtain ⟨s, vs, rfl, rfl, sh⟩ := shvs_s sh
  obtain ⟨v, vs, rfl, i1, sh⟩ := shvs_d sh
  cases sh
  cases i1 with
  | @lst a ws _ na rd im =>
    refine ⟨s, a, n, ws, rfl, sp s (by simp), hn, .inl rd, fun z => na (by rw [z]; exact mf s (by simp)), by rw [im.length]; exact h1, fun p ys H' np hp ep g hs => ?_⟩
    obtain ⟨es, pe, im2⟩ := ImAll.permM (f := id) hp (by simpa using im)
    rw [List.map_id] at im2
    rw [im.length] at hs
    exact hq _ (.d (.list es)) (n + ds.length) H' g (by simpa using hs) (Im.lst (al.ne np) (.inl ep) (im2.nx (g.mono mf))) (hR es pe)
/-- a spring -/
def sp_Lspring (K : PySem.W.Frag) : Sp := fun vs H Q _ => ∃ (a : Addr) (ns : List Int) (t : Nat), vs = [.ref a, .int t] ∧ SqL K H a (ns.map V.int) ∧ ns.length ≤ 63 ∧ t ≤ 1000 ∧
  ∀ (s : Addr) (H' : Hp), H s = none → Nx [] H H' → Spr H' s 0 → Q (.ref s) H'
/-- a name -/
def sp_Lw_name (K : PySem.W.Frag) : Sp := fun vs H Q _ => ∃ (s : Addr) (n : Nat), vs = [.ref s] ∧ Spr H s n ∧ n ≤ 1000000000 ∧
  ∀ (x : Str) (H' : Hp), NameOk x → Nx [s] H H' → Spr H' s (n + 9) → Q (.str x) H'
/-- so many unlike names, a new list -/
def sp_Lw_names (K : PySem.W.Frag) : Sp := fun vs H Q _ => ∃ (s : Addr) (n m : Nat), vs = [.ref s, .int m] ∧ Spr H s n ∧ n ≤ 100000000 ∧ m ≤ 90 ∧
  ∀ (p : Addr) (xs : List Str) (H' : Hp), H p = none → xs.length = m → (∀ x ∈ xs, NameOk x) → xs.Nodup → H' p = some (.lst (xs.map V.str)) → Nx [s] H H' → Spr H' s (n + m * 12) → Q (.ref p) H'
def W_Lw_names : WP := fun xs n R => ∃ m : Nat, xs = [.s, .d (.int m)] ∧ n ≤ 100000000 ∧ m ≤ 90 ∧ ∀ ys : List Str, ys.length = m → (∀ x ∈ ys, NameOk x) → ys.Nodup → R (.d (.list (ys.map .str))) (n + m * 12)
theorem imp_Lw_names {K : PySem.W.Frag} {C : Addr} (vs : List V) (H : Hp) (Q : VK) (E : XK) (h : spW C W_Lw_names vs H Q E) : sp_Lw_names K vs H Q E := by
  obtain ⟨F, M, xs, n, R, al, mf, sp, sh, ⟨m, rfl, hn, h1, hR⟩, hq⟩ := h
  obtain ⟨s, vs, rfl, rfl, sh⟩ := shvs_s sh
  obtain ⟨v, vs, rfl, i1, sh⟩ := shvs_d sh
  cases sh; cases i1
  exact ⟨s, n, m, rfl, sp s (by simp), hn, h1, fun p ys H' np hl hn hd ep g hs => hq _ (.d (.list (ys.map .str))) _ H' g (by simpa using hs) (Im.lst (al.ne np) (.inl ep) (ImAll.strs ys)) (hR ys hl hn hd)⟩
/-- so many lengths from 1 to hours, a new list -/
def sp_Lr_lengths (K : PySem.W.Frag) : Sp := fun vs H Q _ => ∃ (s : Addr) (n : Nat) (h : Int) (m : Nat), vs = [.ref s, .int h, .int m] ∧ Spr H s n ∧ n ≤ 1000000000 ∧ 1 ≤ h ∧ h ≤ 1000 ∧ m ≤ 1000 ∧
  ∀ (p : Addr) (ys : List Int) (H' : Hp), H p = none → ys.length = m → (∀ y ∈ ys, 1 ≤ y ∧ y ≤ h) → H' p = some (.lst (ys.map V.int)) → Nx [s] H H' → Spr H' s (n + m * 2 + 2) → Q (.ref p) H'
/-- hours and so many arcs, a pair -/
def sp_Lr_drawn (K : PySem.W.Frag) : Sp := fun vs H Q _ => ∃ (s : Addr) (n m : Nat) (S : List Addr), vs = [.ref s, .int m] ∧ Spr H s n ∧ n ≤ 10000000 ∧ m ≤ 90 ∧ s ∈ S ∧ Al S H ∧
  ∀ (t a : Addr) (h : Int) (A : Arcs) (H' : Hp), H t = none → H' t = some (.tup [.int h, .ref a]) → 1 ≤ h → h ≤ 1000 → H a = none → Im S H' (.ref a) (arcsD A) → ArcsOk h A → A.length = m → Nx [s] H H' → Spr H' s (n + m * 15 + 10) → Q (.ref t) H'
def W_Lr_drawn : WP := fun xs n R => ∃ m : Nat, xs = [.s, .d (.int m)] ∧ n ≤ 10000000 ∧ m ≤ 90 ∧ ∀ (h : Int) (A : Arcs), 1 ≤ h → h ≤ 1000 → ArcsOk h A → A.length = m → R (.d (.tuple [.int h, arcsD A])) (n + m * 15 + 10)
theorem imp_Lr_drawn {K : PySem.W.Frag} {C : Addr} (vs : List V) (H : Hp) (Q : VK) (E : XK) (h : spW C W_Lr_drawn vs H Q E) : sp_Lr_drawn K vs H Q E := by
  obtain ⟨F, M, xs, n, R, al, mf, sp, sh, ⟨m, rfl, hn, h1, hR⟩, hq⟩ := h
  obtain ⟨s, vs, rfl, rfl, sh⟩ := shvs_s sh
  obtain ⟨v, vs, rfl, i1, sh⟩ := shvs_d sh
  cases sh; cases i1
  exact ⟨s, n, m, F, rfl, sp s (by simp), hn, h1, mf s (by simp), al, fun t a h A H' nt et h1 h2 na ia ok hl g hs => hq _ (.d (.tuple [.int h, arcsD A])) _ H' g (by simpa using hs) (Im.tup (al.ne nt) (.inl et) (.cons (.int h) (.cons ia .nil))) (hR h A h1 h2 ok hl)⟩
/-- two of the same data: True -/
def sp_LsameN (K : PySem.W.Frag) (n : Nat) : Sp := fun vs H Q _ => ∃ (v w : V) (d : PyData), vs = [v, w] ∧ Im [] H v d ∧ Im [] H w d ∧ dep d < n ∧ sm d = true ∧ ∀ H', Nx [] H H' → Q (.bl true) H'
def sp_Lsame (K : PySem.W.Frag) : Sp := sp_LsameN K 10
theorem void_Lsame {K : PySem.W.Frag} (vs : List V) (H : Hp) (Q : VK) (E : XK) : ¬ sp_LsameN K 0 vs H Q E := fun ⟨_, _, _, _, _, _, h, _⟩ => Nat.not_lt_zero _ h
def W_Lsame : WP := fun xs n R => ∃ d, xs = [.d d, .d d] ∧ dep d < 10 ∧ sm d = true ∧ R (.d (.bool true)) n
theorem imp_Lsame {K : PySem.W.Frag} {C : Addr} (vs : List V) (H : Hp) (Q : VK) (E : XK) (h : spW C W_Lsame vs H Q E) : sp_Lsame K vs H Q E := by
  obtain ⟨F, M, xs, n, R, al, mf, sp, sh, ⟨d, rfl, h1, h2, hR⟩, hq⟩ := h
  obtain ⟨v, vs, rfl, i1, sh⟩ := shvs_d sh
  obtain ⟨w, vs, rfl, i2, sh⟩ := shvs_d sh
  cases sh
  exact ⟨v, w, d, rfl, Im.sub ap_nil _ i1, Im.sub ap_nil _ i2, h1, h2, fun H' g => hq _ (.d (.bool true)) n H' g.of0 (fun s hs => (sp s hs).nx g (by simp)) (Im.bl true) hR⟩
def sp_is_integer (_ : PySem.W.Frag) : Sp := fun vs H Q _ => ∃ (v : V) (S : List Addr) (d : PyData), vs = [v] ∧ Im S H v d ∧ Q (.bl (isIntB d)) H
def W_is_integer : WP := fun xs n R => ∃ d, xs = [.d d] ∧ R (.d (.bool (isIntB d))) n
theorem imp_is_integer {K : PySem.W.Frag} {C : Addr} (vs : List V) (H : Hp) (Q : VK) (E : XK) (h : spW C W_is_integer vs H Q E) : sp_is_integer K vs H Q E := by
  obtain ⟨F, M, xs, n, R, al, mf, sp, sh, ⟨d, rfl, hR⟩, hq⟩ := h
  obtain ⟨v, vs, rfl, i1, sh⟩ := shvs_d sh
  cases sh
  exact ⟨v, F, d, rfl, i1, hq _ (.d (.bool _)) n H (.refl _ _) sp (Im.bl _) hR⟩
def sp_is_between (_ : PySem.W.Frag) : Sp := fun vs H Q _ => ∃ (v : V) (lo hi : Int) (S : List Addr) (d : PyData), vs = [v, .int lo, .int hi] ∧ Im S H v d ∧ Q (.bl (betB d lo hi)) H
def W_is_between : WP := fun xs n R => ∃ (d : PyData) (lo hi : Int), xs = [.d d, .d (.int lo), .d (.int hi)] ∧ R (.d (.bool (betB d lo hi))) n
theorem imp_is_between {K : PySem.W.Frag} {C : Addr} (vs : List V) (H : Hp) (Q : VK) (E : XK) (h : spW C W_is_between vs H Q E) : sp_is_between K vs H Q E := by
  obtain ⟨F, M, xs, n, R, al, mf, sp, sh, ⟨d, lo, hi, rfl, hR⟩, hq⟩ := h
  obtain ⟨v, vs, rfl, i1, sh⟩ := shvs_d sh
  obtain ⟨v2, vs, rfl, i2, sh⟩ := shvs_d sh
  obtain ⟨v3, vs, rfl, i3, sh⟩ := shvs_d sh
  cases sh; cases i2; cases i3
  exact ⟨v, lo, hi, F, d, rfl, i1, hq _ (.d (.bool _)) n H (.refl _ _) sp (Im.bl _) hR⟩
def sp_is_list (_ : PySem.W.Frag) : Sp := fun vs H Q _ => ∃ (v : V) (S : List Addr) (d : PyData), vs = [v] ∧ Im S H v d ∧ ∀ H', Nx [] H H' → Q (.bl (isListD d || isTupD d)) H'
def W_is_list : WP := fun xs n R => ∃ d, xs = [.d d] ∧ R (.d (.bool (isListD d || isTupD d))) n
theorem imp_is_list {K : PySem.W.Frag} {C : Addr} (vs : List V) (H : Hp) (Q : VK) (E : XK) (h : spW C W_is_list vs H Q E) : sp_is_list K vs H Q E := by
  obtain ⟨F, M, xs, n, R, al, mf, sp, sh, ⟨d, rfl, hR⟩, hq⟩ := h
  obtain ⟨v, vs, rfl, i1, sh⟩ := shvs_d sh
  cases sh
  exact ⟨v, F, d, rfl, i1, fun H' g => hq _ (.d (.bool _)) n H' g.of0 (fun s hs => (sp s hs).nx g (by simp)) (Im.bl _) hR⟩
def sp_is_name (_ : PySem.W.Frag) : Sp := fun vs H Q _ => ∃ (v : V) (S : List Addr) (d : PyData), vs = [v] ∧ Im S H v d ∧ sm d = true ∧ ∀ H', Nx [] H H' → Q (.bl (nameB d)) H'
def W_is_name : WP := fun xs n R => ∃ d, xs = [.d d] ∧ sm d = true ∧ R (.d (.bool (nameB d))) n
theorem imp_is_name {K : PySem.W.Frag} {C : Addr} (vs : List V) (H : Hp) (Q : VK) (E : XK) (h : spW C W_is_name vs H Q E) : sp_is_name K vs H Q E := by
  obtain ⟨F, M, xs, n, R, al, mf, sp, sh, ⟨d, rfl, h1, hR⟩, hq⟩ := h
  obtain ⟨v, vs, rfl, i1, sh⟩ := shvs_d sh
  cases sh
  exact ⟨v, F, d, rfl, i1, h1, fun H' g => hq _ (.d (.bool _)) n H' g.of0 (fun s hs => (sp s hs).nx g (by simp)) (Im.bl _) hR⟩
def sp_check_hours (_ : PySem.W.Frag) : Sp := fun vs H Q _ => ∃ (h : Int), vs = [.int h] ∧ 1 ≤ h ∧ h ≤ 1000 ∧ Q .non H
def sp_are_arcs (_ : PySem.W.Frag) : Sp := fun vs H Q _ => ∃ (h : Int) (v : V) (S : List Addr) (d : PyData), vs = [.int h, v] ∧ Im S H v d ∧ sm d = true ∧ ∀ H', Nx [] H H' → Q (.bl (arcsB h d)) H'
def sp_Ring_init (_ : PySem.W.Frag) (C : Addr) : Sp := fun vs H Q _ => ∃ (x dx : Addr) (h : Int) (v : V) (S : List Addr) (A : Arcs) (d : PyData), vs = [.ref x, .int h, v] ∧ H x = some (.ins C dx []) ∧ Al (x :: S) H ∧ Im (x :: S) H v d ∧ Lo (arcsD A) d ∧ ArcsOk h A ∧ A.length ≤ 40 ∧ 1 ≤ h ∧ h ≤ 1000 ∧
  ∀ (ys : List Str) (d' : Addr) (H' : Hp), ys.Perm (A.map (·.1)) → sortedS ys = true → Nx [x] H H' → H' x = some (.ins C dx [("own_hours", .int h), ("own_arcs", .ref d')]) → Im (x :: S) H' (.ref d') (arcsD (arcsBy A ys)) → Q .non H'
theorem s_ringMade {K : PySem.W.Frag} {C : Addr} {H1 : Hp} {Q : Addr → Hp → Prop} {E : XK} {hh : Int} {v : V} {S : List Addr} {A : Arcs} {d : PyData} (al : Al S H1) (iv : Im S H1 v d) (lo : Lo (arcsD A) d) (ok : ArcsOk hh A) (hA : A.length ≤ 40) (h1 : 1 ≤ hh) (h2 : hh ≤ 1000)
    (q : ∀ x ys H', H1 x = none → ys.Perm (A.map (·.1)) → Nx [] H1 H' → RingR S H' C x hh (arcsBy A ys) → Q x H') :
    ∀ x dx, H1 x = none → H1 dx = none → dx ≠ x → sp_Ring_init K C (.ref x :: ([.int hh, v] ++ [])) (upd (upd H1 dx (.own x)) x (.ins C dx [])) (fun v H2 => v = .non ∧ Q x H2) E := by
  intro x dx nx nd ne
  have g1 : Nx [] H1 (upd (upd H1 dx (.own x)) x (.ins C dx [])) := (Nx.new nd).newP (by rw [upd_ne ne.symm]; exact nx)
  refine ⟨x, dx, hh, v, S, A, d, rfl, upd_same, (al.mono g1).cons upd_same, Im.over nx g1.of0 iv, lo, ok, hA, h1, h2, fun ys d' H' hp _ g ex io => ⟨rfl, q x ys H' nx hp ((g1.of0.trans g).drop nx) ⟨al.ne nx, dx, d', ex, io.tail⟩⟩⟩
def dRing (da : DTA) : DTE := fun δ n R => da δ n fun xs δ' n' => ∃ (h : Int) (A : Arcs) (d : PyData), xs = [.d (.int h), .d d] ∧ Lo (arcsD A) d ∧ ArcsOk h A ∧ A.length ≤ 40 ∧ 1 ≤ h ∧ h ≤ 1000 ∧ ∀ ys : List Str, ys.Perm (A.map (·.1)) → R (.ring h (arcsBy A ys)) δ' n'
theorem td_mkRing {K : PySem.W.Frag} {C : Addr} {ta : TA} {da : DTA} (ha : TDA C ta da) : TD C (tMake C (sp_Ring_init K C) [] C8.E0 ta) (dRing da) := fun {F M S H σ δ n R Q} r hd hq => ha r hd fun vs xs S1 H1 δ1 n1 g1 r1 s1 ⟨h, A, d, e, lo, ok, hl, h1, h2, hk⟩ => by
  subst e
  obtain ⟨v, vs, rfl, i1, sh⟩ := shvs_d s1
  obtain ⟨w, vs, rfl, i2, sh⟩ := shvs_d sh
  cases sh; cases i1
  exact s_ringMade (K := K) (E := C8.E0) r1.al i2 lo ok hl h1 h2 fun x ys H' nx py g rR => hq (.ref x) (.ring h (arcsBy A ys)) S1 H' δ1 n1 (g1.trans (.of0 g)) (r1.nx0 g) ⟨x, rfl, rR⟩ (hk ys py)
theorem w_dRing {da : DTA} {δ : DSt} {n : Nat} {R : DV → DSt → Nat → Prop} (h : da δ n fun xs δ' n' => ∃ (h : Int) (A : Arcs) (d : PyData), xs = [.d (.int h), .d d] ∧ Lo (arcsD A) d ∧ ArcsOk h A ∧ A.length ≤ 40 ∧ 1 ≤ h ∧ h ≤ 1000 ∧ ∀ ys : List Str, ys.Perm (A.map (·.1)) → R (.ring h (arcsBy A ys)) δ' n') : dRing da δ n R := h
def sp_Ring_len (_ : PySem.W.Frag) (C : Addr) : Sp := fun vs H Q _ => ∃ (a : Addr) (S : List Addr) (h : Int) (A : Arcs), vs = [.ref a] ∧ RingR S H C a h A ∧ Q (.int A.length) H
theorem ok_lenR {K : PySem.W.Frag} {C : Addr} : CallOk C (rOwnLen C (sp_Ring_len K C)) fLenR := fun {U M H vs as k Q} al h ⟨hh, A, e, hl, hk⟩ hq => by
  subst e
  obtain ⟨v, rfl, h1⟩ := shrs1 h
  obtain ⟨a, rfl, rR⟩ := h1
  obtain ⟨na, dx, d, e1, im⟩ := id rR
  exact ⟨a, dx, _, rfl, e1, a, U, hh, A, rfl, rR, A.length, rfl, by omega, hq _ _ _ (.refl _ _) (sh_int _) hk⟩
def hasB (A : Arcs) : PyData → Bool
  | .str x => decide (x ∈ A.map (·.1))
  | _ => false
def sp_Ring_contains (_ : PySem.W.Frag) (C : Addr) : Sp := fun vs H Q _ => ∃ (a : Addr) (S S2 : List Addr) (h : Int) (A : Arcs) (v : V) (d : PyData), vs = [.ref a, v] ∧ RingR S H C a h A ∧ Im S2 H v d ∧ Q (.bl (hasB A d)) H
def fInR (neg : Bool) : F2 := fun a b k => ∃ (x : PyData) (h : Int) (A : Arcs), a = .d x ∧ b = .ring h A ∧ k (.d (.bool (hasB A x != neg)))
theorem ok_inR {K : PySem.W.Frag} {C : Addr} {neg : Bool} : BinOk C (rOwnIn neg C (sp_Ring_contains K C)) (fInR neg) := fun {U M H v w a b k Q} h1 h2 ⟨x, hh, A, ea, eb, hk⟩ hq => by
  subst ea eb
  obtain ⟨p, rfl, rR⟩ := h2
  obtain ⟨na, dx, d, e1, im⟩ := id rR
  exact ⟨p, dx, _, rfl, e1, p, U, [], hh, A, v, x, rfl, rR, ImR.im0 h1, hasB A x, rfl, hq _ _ (sh_bl _) hk⟩
def sp_Ring_hours (_ : PySem.W.Frag) (C : Addr) : Sp := fun vs H Q _ => ∃ (a : Addr) (S : List Addr) (h : Int) (A : Arcs), vs = [.ref a] ∧ RingR S H C a h A ∧ Q (.int h) H
def W_Ring_hours : WP := fun xs n R => ∃ (h : Int) (A : Arcs), xs = [.ring h A] ∧ R (.d (.int h)) n
theorem imp_Ring_hours {K : PySem.W.Frag} {C : Addr} (vs : List V) (H : Hp) (Q : VK) (E : XK) (h : spW C W_Ring_hours vs H Q E) : sp_Ring_hours K C vs H Q E := by
  obtain ⟨F, M, xs, n, R, al, mf, sp, sh, ⟨k, A, rfl, hR⟩, hq⟩ := h
  obtain ⟨a, vs, rfl, i1, sh⟩ := shvs_r sh
  cases sh
  exact ⟨a, F, k, A, rfl, i1, hq _ (.d (.int k)) n H (.refl _ _) sp (Im.int _) hR⟩
def sp_Ring_names (_ : PySem.W.Frag) (C : Addr) : Sp := fun vs H Q _ => ∃ (a : Addr) (S : List Addr) (h : Int) (A : Arcs), vs = [.ref a] ∧ RingR S H C a h A ∧ A.length ≤ 40 ∧
  ∀ (ys : List Str) (p : Addr), ys.Perm (A.map (·.1)) → sortedS ys = true → H p = none → Q (.ref p) (upd H p (.lst (ys.map V.str)))
def W_Ring_names : WP := fun xs n R => ∃ (h : Int) (A : Arcs), xs = [.ring h A] ∧ A.length ≤ 40 ∧ ∀ ys : List Str, ys.Perm (A.map (·.1)) → sortedS ys = true → R (.d (.list (ys.map .str))) n
theorem imp_Ring_names {K : PySem.W.Frag} {C : Addr} (vs : List V) (H : Hp) (Q : VK) (E : XK) (h : spW C W_Ring_names vs H Q E) : sp_Ring_names K C vs H Q E := by
  obtain ⟨F, M, xs, n, R, al, mf, sp, sh, ⟨k, A, rfl, hl, hR⟩, hq⟩ := h
  obtain ⟨a, vs, rfl, i1, sh⟩ := shvs_r sh
  cases sh
  exact ⟨a, F, k, A, rfl, i1, hl, fun ys p hp hs np => hq _ (.d (.list (ys.map .str))) n _ (.new np) (fun s hs => (sp s hs).nx (S := []) (.new np) (by simp)) (Im.lst (al.ne np) (.inl upd_same) (ImAll.strs ys)) (hR ys hp hs)⟩
def sp_Ring_arc (_ : PySem.W.Frag) (C : Addr) : Sp := fun vs H Q _ => ∃ (a : Addr) (S : List Addr) (h : Int) (A : Arcs) (n : Str), vs = [.ref a, .str n] ∧ RingR S H C a h A ∧ (A.map (·.1)).Nodup ∧ n ∈ A.map (·.1) ∧
  ∀ v, Im S H v (arcD (arcOf A n)) → Q v H
def W_Ring_arc : WP := fun xs n R => ∃ (h : Int) (A : Arcs) (x : Str), xs = [.ring h A, .d (.str x)] ∧ (A.map (·.1)).Nodup ∧ x ∈ A.map (·.1) ∧ R (.d (arcD (arcOf A x))) n
theorem imp_Ring_arc {K : PySem.W.Frag} {C : Addr} (vs : List V) (H : Hp) (Q : VK) (E : XK) (h : spW C W_Ring_arc vs H Q E) : sp_Ring_arc K C vs H Q E := by
  obtain ⟨F, M, xs, n, R, al, mf, sp, sh, ⟨k, A, x, rfl, nd, hx, hR⟩, hq⟩ := h
  obtain ⟨a, vs, rfl, i1, sh⟩ := shvs_r sh
  obtain ⟨v, vs, rfl, i2, sh⟩ := shvs_d sh
  cases sh; cases i2
  exact ⟨a, F, k, A, x, rfl, i1, nd, hx, fun v iv => hq v (.d (arcD (arcOf A x))) n H (.refl _ _) sp iv hR⟩
/-- a plain thing and itself: True (an exception may be handled) -/
def sp_LsameW (_ : PySem.W.Frag) : Sp := fun vs H Q _ => ∃ (v : V) (d : PyData), vs = [v, v] ∧ Im [] H v d ∧ isDictD d = false ∧ isListD d = false ∧ isTupD d = false ∧ ∀ H', Nx [] H H' → Q (.bl true) H'
/-- the very same thing: True -/
def sp_LveryW (_ : PySem.W.Frag) : Sp := fun vs H Q _ => ∃ (v : V) (d : PyData), vs = [v, v] ∧ Im [] H v d ∧ Unl H v ∧ NoLate d ∧ isTupD d = false ∧ sm d = true ∧ ∀ H', Nx [] H H' → Q (.bl true) H'
def isNumB (d : PyData) : Bool := match d with
  | .int i => decide (0 ≤ i)
  | _ => false
def W_is_number : WP := fun xs n R => ∃ d, xs = [.d d] ∧ R (.d (.bool (isNumB d))) n
def W_is_drifts : WP := fun xs n R => ∃ (h : Int) (A : Arcs) (d : PyData), xs = [.ring h A, .d d] ∧ A.length ≤ 40 ∧ R (.d (.bool (isDriftsB h A d))) n
def W_check_drifts : WP := fun xs n R => ∃ (h : Int) (A : Arcs) (d : PyData), xs = [.ring h A, .d d] ∧ A.length ≤ 40 ∧ isDriftsB h A d = true ∧ R (.d .none) n
theorem spW_in {C : Addr} {W : WP} {vs : List V} {H : Hp} {Q : VK} {E : XK} {xs : List DV} {R : DV → Nat → Prop} (sh : ShVs C [] [] H vs xs) (h : W xs 0 R) (hq : ∀ v x H', Nx [] H H' → ShV C [] [] H' v x → (∃ n, R x n) → Q v H') : spW C W vs H Q E :=
  ⟨[], [], xs, 0, R, (by intro a h; cases h), (by intro a h; cases h), (by intro a h; cases h), sh, h, fun v x n' H' g _ sv r => hq v x H' g sv ⟨n', r⟩⟩
/-- no drifts: BadDrifts, with them -/
def sp_check_driftsX (_ : PySem.W.Frag) (C CB : Addr) : Sp := fun vs H Q E => ∃ (r : Addr) (h : Int) (A : Arcs) (v : V) (d : PyData), vs = [.ref r, v] ∧ RingR [] H C r h A ∧ A.length ≤ 40 ∧ Im [] H v d ∧
  ∀ H', Nx [] H H' → (isDriftsB h A d = true → Q .non H') ∧ (isDriftsB h A d = false → ∀ dx, H' dx = none → E (.ref CB) (some dx) (upd H' dx (.xd [("drifts", v)])))
def W_start_on : WP := fun xs n R => ∃ (h : Int) (A : Arcs) (D : Nums) (x : Str) (day : Int), xs = [.ring h A, .d (numsD D), .d (.str x), .d (.int day)] ∧ (A.map (·.1)).Nodup ∧ x ∈ A.map (·.1) ∧ x ∈ D.map (·.1) ∧ 0 < h ∧ 0 ≤ numOf D x ∧ numOf D x ≤ 100000 ∧ 0 ≤ day ∧ day ≤ 100000 ∧ R (.d (.int (starts h A D x day))) n
def W_turned_on : WP := fun xs n R => ∃ (h : Int) (A : Arcs) (D : Nums) (day : Int), xs = [.ring h A, .d (numsD D), .d (.int day)] ∧ RingOk h A ∧ DriftOk h A D ∧ 0 ≤ day ∧ day ≤ 1000 ∧ ∀ ys : List Str, ys.Perm (A.map (·.1)) → R (.ring h (turnA h A D day ys)) n
def W_ring_on : WP := fun xs n R => ∃ (h : Int) (A : Arcs) (D : Nums) (day : Int), xs = [.ring h A, .d (numsD D), .d (.int day)] ∧ RingOk h A ∧ DriftOk h A D ∧ 0 ≤ day ∧ day ≤ 1000 ∧ ∀ ys : List Str, ys.Perm (A.map (·.1)) → R (.ring h (turnA h A D day ys)) n
def W_is_wishes : WP := fun xs n R => ∃ (h : Int) (A : Arcs) (d : PyData), xs = [.ring h A, .d d] ∧ A.length ≤ 40 ∧ (∀ ds, d = .dict ds → ds.length ≤ 1000 ∧ ∀ p ∈ ds, ∃ k, p.1 = kD k ∧ (lookK ds k).isSome = true) ∧ R (.d (.bool (isWishesB h A d))) n
def W_days_for : WP := fun xs n R => ∃ (h : Int) (A : Arcs) (D : Nums) (x : Str) (w : Int), xs = [.ring h A, .d (numsD D), .d (.str x), .d (.int w)] ∧ RingOk h A ∧ DriftOk h A D ∧ x ∈ A.map (·.1) ∧ R (.d (.list ((daysL h A D x w).map .int))) n
def W_all_start : WP := fun xs n R => ∃ (h : Int) (A : Arcs) (D W : Nums), xs = [.ring h A, .d (numsD D), .d (numsD W)] ∧ RingOk h A ∧ DriftOk h A D ∧ WishOk h A W ∧ ∀ ys : List Str, ys.Perm (W.map (·.1)) → sortedS ys = true → R (.d (dueD h A D W ys)) n
/-- what it refuses: no drifts, no wishes -/
def sp_all_startX (_ : PySem.W.Frag) (C CB1 CB2 : Addr) : Sp := fun vs H _ E => ∃ (r : Addr) (h : Int) (A : Arcs) (v u : V) (d e : PyData), vs = [.ref r, v, u] ∧ RingR [] H C r h A ∧ A.length ≤ 40 ∧ Im [] H v d ∧ Im [] H u e ∧
  (isDriftsB h A d = true → (∀ ds, e = .dict ds → ds.length ≤ 1000 ∧ ∀ p ∈ ds, ∃ k, p.1 = kD k ∧ (lookK ds k).isSome = true) ∧ isWishesB h A e = false) ∧
  ∀ H', Nx [] H H' → (isDriftsB h A d = false → ∀ dx, H' dx = none → E (.ref CB1) (some dx) (upd H' dx (.xd [("drifts", v)]))) ∧ (isDriftsB h A d = true → ∀ dx, H' dx = none → E (.ref CB2) (some dx) (upd H' dx (.xd [("wishes", u)])))
def W_Ld_drifts : WP := fun xs n R => ∃ (h : Int) (A : Arcs), xs = [.s, .d (.int h), .d (arcsD A)] ∧ n ≤ 10000000 ∧ RingOk h A ∧ ∀ (D : Nums) (m : Nat), DriftOk h A D → n ≤ m → m ≤ n + 200 → R (.d (numsD D)) m
def W_Ld_days : WP := fun xs n R => ∃ (h : Int) (A : Arcs) (D : Nums) (x : Str) (w : Int), xs = [.d (.int h), .d (arcsD A), .d (numsD D), .d (.str x), .d (.int w)] ∧ RingOk h A ∧ DriftOk h A D ∧ x ∈ A.map (·.1) ∧ R (.d (.list ((daysL h A D x w).map .int))) n
def W_Ld_due : WP := fun xs n R => ∃ (h : Int) (A : Arcs) (D W : Nums), xs = [.d (.int h), .d (arcsD A), .d (numsD D), .d (numsD W)] ∧ RingOk h A ∧ DriftOk h A D ∧ WishOk h A W ∧ ∀ ys : List Str, ys.Perm (W.map (·.1)) → sortedS ys = true → R (.d (dueD h A D W ys)) n
def W_Ld_wishes : WP := fun xs n R => ∃ (h : Int) (A : Arcs) (D : Nums), xs = [.s, .d (.int h), .d (arcsD A), .d (numsD D)] ∧ n ≤ 10000000 ∧ RingOk h A ∧ DriftOk h A D ∧ ∀ (W : Nums) (m : Nat), WishOk h A W → n ≤ m → m ≤ n + 200 → R (.d (numsD W)) m
def W_Ld_asked : WP := fun xs n R => ∃ (h : Int) (A : Arcs) (D W : Nums), xs = [.s, .d (.int h), .d (arcsD A), .d (numsD D), .d (numsD W)] ∧ RingOk h A ∧ DriftOk h A D ∧ WishOk h A W ∧ R (.d (.bool true)) n
/-- refused: the word and whether it is the very object -/
def T2metD (CB1 CB2 : Addr) (sp : Sp) : V → (XK → Hp → VK → Prop) → Hp → VK → Prop := fun v tl H Q => ∀ k : VK,
  tl (fun cls d H' => (cls = .ref CB1 ∧ ∃ (dd : Addr) (u : V), d = some dd ∧ H' dd = some (.xd [("drifts", u)]) ∧ sp [u, v] H' (fun b H2 => [V.str "drifts", b].length ≤ sizeLine ∧ ∀ p, H2 p = none → Q (.ref p) (upd H2 p (.lst [.str "drifts", b]))) E0) ∨
    (cls = .ref CB2 ∧ ∃ (dd : Addr) (u : V), d = some dd ∧ H' dd = some (.xd [("wishes", u)]) ∧ sp [u, v] H' (fun b H2 => [V.str "wishes", b].length ≤ sizeLine ∧ ∀ p, H2 p = none → Q (.ref p) (upd H2 p (.lst [.str "wishes", b]))) E0)) H k
/-- nothing but the lambdas' table is changed -/
def sp_Ld_refused (_ : PySem.W.Frag) (C P0 : Addr) : Sp := fun vs H Q _ => ∃ (F : List Addr) (h : Int) (A : Arcs) (D : Nums) (va vd : V), vs = [.int h, va, vd] ∧ Al F H ∧ (∀ a ∈ F, ∀ ps, H a ≠ some (.tbl ps)) ∧ LamX.Tabs [(P0, (("_law_d_refused" : Str) ++ ".<locals>.") ++ "<lambda>")] H ∧ Im F H va (arcsD A) ∧ Im F H vd (numsD D) ∧ RingOk h A ∧ DriftOk h A D ∧
  ∀ H', LamX.ExtN H H' → LamX.Tabs [(P0, (("_law_d_refused" : Str) ++ ".<locals>.") ++ "<lambda>")] H' → Q (.bl true) H'
/-- the law -/
def sp_law (K : PySem.W.Frag) (_ P0 : Addr) : Sp := fun vs H Q _ => ∃ (a : Addr) (ns : List Int), vs = [.ref a] ∧ SqL K H a (ns.map V.int) ∧ ns.length ≤ 63 ∧ H P0 = some (.tbl #[]) ∧ ∀ H', Q (.bl true) H'
local macro_rules | `(tactic| walk_at "st") => `(tactic| repeat (first
  | with_reducible refine s_seq ?_
  | ((with_reducible refine' s_var ?e ?_); (case e => rfl))
  | with_reducible refine s_c ?_
  | with_reducible refine s_asg ?_
  | with_reducible refine s_name ?_
  | with_reducible refine s_op ?_
  | with_reducible refine s_cons ?_
  | with_reducible refine s_nil ?_
  | with_reducible refine s_I0 ?_
  | with_reducible refine s_CB ?_
  | with_reducible refine s_call ?_
  | with_reducible refine s_mk ?_
  | with_reducible refine s_callK ?_
  | with_reducible refine s_ret ?_
  | with_reducible refine s_if ?_
  | with_reducible refine s_test ?_
  | with_reducible refine s_B ?_
  | with_reducible refine s_bl ?_
  | with_reducible refine s_and ?_
  | with_reducible refine s_or ?_
  | with_reducible refine s_not ?_
  | with_reducible refine s_andV ?_
  | with_reducible refine s_orV ?_
  | with_reducible refine s_notV ?_
  | with_reducible refine s_ifE ?_
  | with_reducible refine s_drop ?_
  | with_reducible refine s_next ?_
  | with_reducible refine s_tup ?_
  | with_reducible refine s_lst ?_
  | with_reducible refine s_par2 ?_
  | with_reducible refine s_par3 ?_
  | with_reducible refine s_2 ?_
  | with_reducible refine s_3 ?_
  | with_reducible refine s_sub ?_
  | with_reducible refine s_dput ?_
  | with_reducible refine s_dget ?_
  | with_reducible refine s_un ?_
  | with_reducible refine s_eqI ?_
  | with_reducible refine s_neI ?_
  | with_reducible refine s_eqS ?_
  | with_reducible refine s_neS ?_
  | with_reducible refine s_eqB ?_
  | with_reducible refine s_neB ?_
  | with_reducible refine s_while ?_
  | with_reducible refine s_truU ?_
  | with_reducible refine s_dnew ?_
  | with_reducible refine s_zipA ?_
  | with_reducible refine s_litems ?_
  | ((with_reducible refine' s_isDict ?i ?_); (case i => assumption))
  | ((with_reducible refine' s_isList ?i ?_); (case i => assumption))
  | ((with_reducible refine' s_isTup ?i ?_); (case i => assumption))
  | ((with_reducible refine' s_isStr ?i ?_); (case i => assumption))
  | ((with_reducible refine' s_isInt ?i ?_); (case i => assumption))
  | ((with_reducible refine' s_isBool ?i ?_); (case i => assumption))
  | with_reducible refine s_for ?_
  | with_reducible refine s_sl ?_
  | with_reducible refine s_nopart ?_
  | with_reducible refine s_part ?_
  | with_reducible refine s_int ?_
  | with_reducible refine s_2i ?_
  | with_reducible refine s_gcons ?_
  | with_reducible refine s_gnil ?_
  | with_reducible refine s_ilist ?_
  | with_reducible refine s_ienum ?_
  | with_reducible refine s_izip ?_
  | with_reducible refine s_istr ?_
  | with_reducible refine s_ikeys ?_
  | with_reducible refine s_iitems ?_
  | with_reducible refine s_ivals ?_
  | ((with_reducible refine' s_gtupN ?e ?_); (case e => rfl))
  | ((with_reducible refine' s_new ?e ?_); (case e => rfl))
  | with_reducible refine s_lc ?_
  | with_reducible refine s_bm ?_
  | with_reducible refine s_bm0 ?_
  | with_reducible refine s_rng1 ?_
  | with_reducible refine s_yes ?_
  | with_reducible refine s_U ?_
  | with_reducible refine s_int1 ?_
  | ((with_reducible refine' s_I ?c ?_); (case c => (first | omega | (unfold CMul; omega) | (unfold CDiv; omega) | (unfold CPow; omega))))
  | with_reducible refine s_retN ?_
  | with_reducible refine s_fld ?_
  | with_reducible refine s_mkO ?_
  | with_reducible refine s_tp1 ?_
  | with_reducible refine s_tp2 ?_
  | with_reducible refine s_disp ?_
  | with_reducible refine s_dictzip ?_
  | with_reducible refine s_sfld ?_
  | with_reducible refine s_methE ?_
  | with_reducible refine s_make ?_
  | with_reducible refine s_dc ?_
  | with_reducible refine s_chain ?_
  | with_reducible refine ite_eqs ?_
  | with_reducible refine ite_nes ?_
  | with_reducible refine ite_nt ?_
  | with_reducible refine ite_nf ?_
  | with_reducible refine ite_tt ?_
  | with_reducible refine ite_ff ?_
  | dsimp only [List.set_cons_zero, List.set_cons_succ, List.cons_append, List.nil_append, List.append_nil]))
local macro_rules | `(tactic| walk_at "go") => `(tactic| (simp only [cxB, cxOf, L2.start, List.map_cons, List.map_nil, List.length_cons, List.length_nil, Nat.reduceAdd, Nat.reduceSub, List.replicate_succ, List.replicate_zero, List.cons_append, List.nil_append]; walk_at "st"))
local macro_rules | `(tactic| walk_at "sub") => `(tactic| first
  | assumption
  | exact sub_nil
  | exact sub_self
  | (refine sub_one ?_; first | assumption | exact List.mem_cons_self | (simp; done))
  | (refine sub_tl ?_; walk_at "sub")
  | (refine sub_cons ?_ ?_ <;> first | assumption | exact List.mem_cons_self | walk_at "sub"))
local macro_rules | `(tactic| walk_at "th") => `(tactic| first
  | exact Th.refl _
  | (with_reducible refine Th.newP ?_; walk_at "th")
  | (refine Th.step (by assumption) ?_; walk_at "th"))
local macro_rules | `(tactic| walk_at "no") => `(tactic| first | assumption | (refine no_to (by assumption) ?_; walk_at "th"))
local macro_rules | `(tactic| walk_at "nx") => `(tactic| first
  | exact Nx.refl _ _
  | assumption
  | (with_reducible refine Nx.newP ?_ (by assumption); walk_at "nx")
  | (refine Nx.step (by assumption) ?_ ?_; (walk_at "sub"); (walk_at "nx")))
local macro_rules | `(tactic| walk_at "ap") => `(tactic| first
  | exact ap_nil
  | exact ap_self
  | (refine ap_sub ?_; walk_at "sub")
  | (refine ap_cons ?_ ?_; (walk_at "no"); (walk_at "ap"))
  | (refine ap_in ?_ ?_; (first | assumption | exact List.mem_cons_self); (walk_at "ap")))
local macro_rules | `(tactic| walk_at "al") => `(tactic| first
  | assumption
  | exact upd_ne_none
  | exact Spr.al (by assumption)
  | exact al_at (by assumption)
  | (refine al_to (by assumption) ?_; walk_at "th")
  | (refine al_to (al_at (by assumption)) ?_; walk_at "th"))
local macro_rules | `(tactic| walk_at "fx") => `(tactic| first
  | assumption
  | (with_reducible refine Im.to (by assumption) ?_ ?_; (walk_at "ap"); (walk_at "nx"))
  | (with_reducible refine ImAll.to (by assumption) ?_ ?_; (walk_at "ap"); (walk_at "nx"))
  | (with_reducible refine ImKv.to (by assumption) ?_ ?_; (walk_at "ap"); (walk_at "nx"))
  | (with_reducible refine RingR.to (by assumption) ?_ ?_; (walk_at "ap"); (walk_at "nx"))
  | (with_reducible refine Spr.to (by assumption) ?_ ?_; (walk_at "nx"); (omega))
  | exact Al.nil
  | (with_reducible refine Al.to (by assumption) ?_; walk_at "th")
  | (with_reducible refine Al.add ?_ ?_; (walk_at "al"); (walk_at "fx"))
  | (with_reducible refine tabs_to (by assumption) ?_; walk_at "nx")
  | (walk_at "nx"))
local macro_rules | `(tactic| walk_at "ok") => `(tactic| first
  | with_reducible exact ok_II | with_reducible exact ok_IB | with_reducible exact ok_IIc | with_reducible exact ok_SS | with_reducible exact ok_SB | with_reducible exact ok_U
  | with_reducible exact ok_eq | with_reducible exact ok_ne | with_reducible exact ok_isN | with_reducible exact ok_notN | with_reducible exact ok_isB | with_reducible exact ok_notB
  | with_reducible exact ok_in | with_reducible exact ok_din | with_reducible exact ok_dnotin | with_reducible exact ok_ixL | with_reducible exact ok_ixT | with_reducible exact ok_ix
  | with_reducible exact ok_len | with_reducible exact ok_lenR | with_reducible exact ok_inR | with_reducible exact ok_is | with_reducible exact ok_all | with_reducible exact ok_any | with_reducible exact ok_int1 | with_reducible exact ok_I2 | with_reducible exact ok_I1 | with_reducible exact ok_eqDD)
local macro_rules | `(tactic| walk_at "td") => `(tactic| repeat (first
  | with_reducible exact tds_next | with_reducible exact tds_retN | with_reducible exact td_int | with_reducible exact td_str | with_reducible exact td_bl | with_reducible exact td_non | with_reducible exact td_ty
  | with_reducible exact tb_var | with_reducible exact tda_nil | with_reducible exact tba_nil | with_reducible exact tdt_yes | with_reducible exact tdg_name | with_reducible exact tdgs_nil | with_reducible exact tdf_newM
  | with_reducible apply tds_seq | with_reducible apply tds_if | with_reducible apply tds_ret
  | with_reducible apply tds_append
  | with_reducible apply tds_dput
  | with_reducible apply tds_drop
  | with_reducible apply tds_par2 | with_reducible apply tds_par3
  | with_reducible apply tds_while | with_reducible apply tds_aug | with_reducible apply tds_par4 | with_reducible exact tdo_none | with_reducible apply tdo_some | with_reducible apply td_callK
  | with_reducible apply tds_forK
  | with_reducible apply tds_for
  | (with_reducible apply tds_setF; first | with_reducible exact tdf_newM | with_reducible apply tdf_lst | with_reducible apply tdf_lcK | with_reducible apply tdf_lc | with_reducible apply tdf_dc | with_reducible apply tdf_cat | with_reducible apply tdf_slL | with_reducible apply tdf_litems | with_reducible apply tdf_disp | (with_reducible apply tdf_nb; any_goals (first | with_reducible exact ok_sortedD | with_reducible exact ok_listD | with_reducible exact ok_listOf | with_reducible exact ok_dictD | with_reducible exact ok_dictP)))
  | with_reducible exact TDPs.nil | with_reducible apply TDPs.cons
  | with_reducible apply tds_set
  | with_reducible apply tds_asg
  | with_reducible apply tdg_tup | with_reducible apply tdg_seq | with_reducible apply tdgs_cons
  | with_reducible apply tdi_list | with_reducible apply tdi_tup | with_reducible apply tdi_rng1 | with_reducible apply tdi_rng2 | with_reducible apply tdi_enum
  | with_reducible apply tdt_test | with_reducible apply tdt_b | with_reducible apply tdt_not | with_reducible apply tdt_and | with_reducible apply tdt_or | with_reducible apply tdt_tru
  | with_reducible apply td_andV | with_reducible apply td_orV | with_reducible apply td_notV | with_reducible apply td_if
  | (with_reducible apply td_frz; first | with_reducible exact tdf_newM | with_reducible apply tdf_lst | with_reducible apply tdf_lcK | with_reducible apply tdf_lc | with_reducible apply tdf_dc | with_reducible apply tdf_cat | with_reducible apply tdf_slL | with_reducible apply tdf_litems | with_reducible apply tdf_disp | (with_reducible apply tdf_nb; any_goals (first | with_reducible exact ok_sortedD | with_reducible exact ok_listD | with_reducible exact ok_listOf | with_reducible exact ok_dictD | with_reducible exact ok_dictP)))
  | with_reducible apply td_op | with_reducible apply td_un | with_reducible apply td_chain
  | with_reducible apply td_call | with_reducible apply td_mkRing | with_reducible apply td_meth
  | with_reducible apply td_dget
  | with_reducible apply td_is2 | with_reducible apply td_is3
  | with_reducible apply td_tup
  | with_reducible apply td_cb
  | with_reducible exact td_var
  | with_reducible apply tda_cons | with_reducible apply tba_cons
  | with_reducible apply tb_of
  | walk_at "ok" | exact (fun _ _ => lk_no) | exact (fun _ _ _ _ => trivial) | decide | (with_reducible exact tds_never)))
local macro_rules | `(tactic| walk_at "ds") => `(tactic| repeat (first
  | with_reducible refine w_dSeq ?_ | with_reducible refine w_dNext ?_ | with_reducible refine w_dSet ?_ | with_reducible refine w_dSetF ?_ | with_reducible refine w_dRet ?_ | with_reducible refine w_dRetN ?_ | with_reducible refine w_dDrop ?_ | with_reducible refine w_dIf ?_
  | with_reducible refine w_dAsg ?_ | with_reducible refine w_dPar2 ?_ | with_reducible refine w_dPar3 ?_
  | with_reducible refine w_dB ?_ | with_reducible refine w_dC ?_ | with_reducible refine w_dNil ?_ | with_reducible refine w_dCons ?_ | with_reducible refine w_dBNil ?_ | with_reducible refine w_dBCons ?_ | with_reducible refine w_dFrz ?_
  | with_reducible refine w_dLst ?_ | with_reducible refine w_dTup ?_ | with_reducible refine w_dNewM ?_ | with_reducible refine w_dTest ?_ | with_reducible refine w_dYes ?_ | with_reducible refine w_dNot ?_ | with_reducible refine w_dAnd ?_ | with_reducible refine w_dOr ?_
  | with_reducible refine w_dAndV ?_ | with_reducible refine w_dOrV ?_ | with_reducible refine w_dNotV ?_ | with_reducible refine w_dIfE ?_ | with_reducible refine w_dCall ?_ | with_reducible refine w_gN ?_ | with_reducible refine w_dOp ?_ | with_reducible refine w_dUn ?_ | with_reducible refine w_dCB ?_ | with_reducible refine w_dNB ?_
  | with_reducible refine w_dGet ?_ | with_reducible refine w_dMeth ?_ | with_reducible refine w_dTru ?_ | with_reducible refine w_dChain ?_ | with_reducible refine w_dRing ?_ | with_reducible refine w_dIs2 ?_ | with_reducible refine w_dIs3 ?_
  | (with_reducible refine w_dSlot ⟨_, rfl, ?_⟩)
  | (with_reducible refine w_dVar (.inl ⟨_, rfl, ?_⟩))
  | ((with_reducible refine' w_dVarM ?e ?_); (case e => rfl))
  | ((with_reducible refine' w_dVarL ?e ?_); (case e => rfl))
  | with_reducible refine w_dLcG ?_ | with_reducible refine w_dDcG ?_ | with_reducible refine w_dForG ?_ | with_reducible refine w_iL ?_ | with_reducible refine w_iT ?_ | with_reducible refine w_iR1 ?_ | with_reducible refine w_iR2 ?_ | with_reducible refine w_iE ?_ | with_reducible refine w_lst ?_ | with_reducible refine w_tupD ?_ | with_reducible refine w_ring ?_ | with_reducible refine w_enumD ?_
  | with_reducible refine w_dDisp ?_ | with_reducible refine w_pNil ?_ | with_reducible refine w_pCons ?_ | with_reducible refine w_dWhile ?_ | with_reducible refine w_dAug ?_ | with_reducible refine w_dCat ?_ | with_reducible refine w_dNoPart ?_ | with_reducible refine w_dPart ?_ | with_reducible refine w_dSl ?_ | with_reducible refine w_dPar4 ?_ | with_reducible refine w_dLItems ?_ | with_reducible refine w_dCallK ?_ | with_reducible refine w_int ?_
  | with_reducible refine w_dGet ?_ | with_reducible refine w_dAppend ?_ | with_reducible refine w_dPut ?_
  | ((with_reducible refine' w_rngE ?e ?f ?_); (case e => rfl); (case f => exact ⟨by omega, by omega, by omega, by omega⟩))
  | ((with_reducible refine' w_cutL ?e ?_); (case e => rfl))
  | ((with_reducible refine' w_dictO ?e ?_); (case e => rfl))
  | ((with_reducible refine' w_aug ?e ?_); (case e => rfl))
  | ((with_reducible refine' w_catD ?e ?f ?g ?_); (case e => rfl); (case f => rfl); (case g => first | (simp; done) | (simp only [List.length_map, List.length_append, List.length_cons, List.length_nil]; omega) | omega))
  | with_reducible refine w_two ?_ | with_reducible refine w_three ?_ | with_reducible refine w_four ?_ | with_reducible refine w_eqN ?_ | with_reducible refine w_copyA ?_ | with_reducible refine w_copyN ?_
  | with_reducible refine w_gsC ?_ | with_reducible refine w_gsN ?_
  | ((refine' w_gTup ?l ?_); (case l => rfl))
  | ((with_reducible refine' w_lenR ?l ?_); (case l => (first | assumption | omega)))
  | ((with_reducible refine' w_iK1 ?e ?_); (case e => rfl))
  | ((with_reducible refine' w_iK2 ?e ?_); (case e => rfl))
  | ((with_reducible refine' w_rngD ?e ?f ?g ?_); (case e => rfl); (case f => omega); (case g => omega))
  | ((with_reducible refine' w_op ?e ?f ?_); (case e => rfl); (case f => rfl))
  | ((with_reducible refine' w_un ?e ?_); (case e => rfl))
  | ((with_reducible refine' w_cb ?e ?_); (case e => rfl))
  | ((with_reducible refine' w_nb ?e ?_); (case e => rfl))
  | ((with_reducible refine' w_truD ?e ?f ?_); (case e => rfl); (case f => (first | (intro _ z; cases z; done))))
  | ((with_reducible refine' w_getD ?a ?b ?c ?e ?_); (case a => rfl); (case b => rfl); (case c => rfl); (case e => (first | assumption)))
  | with_reducible refine w_fII ?_ | with_reducible refine w_fIB ?_ | with_reducible refine w_fSB ?_ | with_reducible refine w_fU ?_ | with_reducible refine w_fI2 ?_ | with_reducible refine w_fI1 ?_ | with_reducible refine w_fIsB ?_ | with_reducible refine w_fIsN ?_
  | with_reducible refine w_lenL ?_ | with_reducible refine w_lenT ?_ | with_reducible refine w_lenM ?_ | with_reducible refine w_inS ?_ | with_reducible refine w_inI ?_ | with_reducible refine w_all ?_ | with_reducible refine w_is (by decide) ?_
  | ((with_reducible refine' w_fEq ?e ?_); (case e => rfl))
  | ((with_reducible refine' w_fNe ?e ?_); (case e => rfl))
  | ((with_reducible refine' w_din ?e ?_); (case e => rfl))
  | ((refine' w_ixT ?e ?_); (case e => rfl))
  | ((with_reducible refine' w_ixL ?e ?_); (case e => first | rfl | assumption))
  | ((with_reducible refine' w_fIIc ?c ?_); (case c => (first | omega | decide | (unfold CMul; omega) | (unfold CDiv; omega))))
  | with_reducible refine w_bool ?_
  | with_reducible refine w_l0 ?_ | with_reducible refine w_l1 ?_ | with_reducible refine w_l2 ?_ | with_reducible refine w_l3 ?_ | with_reducible refine w_l4 ?_ | with_reducible refine w_l5 ?_
  | with_reducible refine ite_eqs ?_ | with_reducible refine ite_nt ?_ | with_reducible refine ite_nf ?_ | with_reducible refine ite_tt ?_ | with_reducible refine ite_ff ?_
  | dsimp only [List.set_cons_zero, List.set_cons_succ, List.cons_append, List.nil_append, List.append_nil, List.map_cons, List.map_nil, wipeD, DO.val, Bool.not_true, Bool.not_false]))
local macro_rules | `(tactic| walk_at "dgo") => `(tactic| (simp only [startD, List.map_cons, List.map_nil, List.length_cons, List.length_nil, Nat.reduceAdd, Nat.reduceSub, List.replicate_succ, List.replicate_zero, List.cons_append, List.nil_append]; walk_at "ds"))

theorem ok_Ldraw {P : Program} {w : World} {K : PySem.W.Frag} {mg : Str → Option Value} {base : Heap} (T : Bn mg) 
    {f : Addr} {fd : FuncData} (F : FunD K "_law_draw" "_law_draw" (defArgs s_Ldraw) (defBody s_Ldraw) (defScope s_Ldraw) [] [] f fd) :
    FnOk P w K mg base CX0 1 f fd ["spring", "many"] (sp_Ldraw K) := by
  refine F.ok sc_Ldraw (fun vs H Q E h => ?_) (fun cdv A outer s H vs Q E hr h => ?_)
  · obtain ⟨s, n, m, rfl, _⟩ := h
    rfl
  · obtain ⟨s, n, m, rfl, hs, hn, hm, hm2, q⟩ := h
    obtain ⟨x, y, z, e, hx, hy, hy2, hz, hz2⟩ := hs.ex
    refine ⟨_, PSs.nox (pss_cons (ps_if (pt_cmpR op_gt (pe_ix (kx_list K) (pv 0) pe_int (fun _ _ => rfl)) pe_int (nomark _)) (pss_cons (ps_set (i := 2) sc_Ldraw.nd rfl (Or.inl rfl) (pe_op op_mod (pe_callTy call_int1 (by rfl) T.int (by decide +kernel) (pa_cons (pe_ix (kx_list K) (pv 0) pe_int (fun _ _ => rfl)) pa_nil)) (pv 1)))
    (pss_cons (ps_asg (pe_op op_fdiv (pe_ix (kx_list K) (pv 0) pe_int (fun _ _ => rfl)) (pv 1)) (pg_sub (pv 0) pe_int set_list))
    (pss_one (ps_ret (pv 2))))) pss_nil)
    (pss_cons (ps_asg (pe_op op_add (pe_ix (kx_list K) (pv 0) pe_int (fun _ _ => rfl)) pe_int) (pg_sub (pv 0) pe_int set_list))
    (pss_cons (ps_set (i := 3) sc_Ldraw.nd rfl (Or.inl rfl) (pe_op op_mod (pe_op op_pow (pe_callTy call_int1 (by rfl) T.int (by decide +kernel) (pa_cons (pe_op op_add (pe_op op_add (pe_ix (kx_list K) (pv 0) pe_int (fun _ _ => rfl)) (pe_op op_mul pe_int (pe_ix (kx_list K) (pv 0) pe_int (fun _ _ => rfl)))) pe_int) pa_nil)) pe_int) pe_int))
    (pss_one (ps_ret (pe_op op_mod (pe_op op_fdiv (pe_op op_mod (pe_op op_pow (pe_callTy call_int1 (by rfl) T.int (by decide +kernel) (pa_cons (pe_op op_add (pe_op op_mul (pv 3) pe_int) (pe_op op_mul pe_int (pe_ix (kx_list K) (pv 0) pe_int (fun _ _ => rfl)))) pa_nil)) pe_int) pe_int) pe_int) (pv 1))))))), ?_⟩
    walk_at "go"
    refine s_ixl (.of e) (atI_at (j := 0) rfl rfl) ?_
    walk_at "st"
    refine ite_b (fun hc => ?_) (fun hc => ?_)
    · have hc := of_decide_eq_true hc
      walk_at "st"
      refine s_ixl (.of e) (atI_at (j := 0) rfl rfl) ?_
      walk_at "st"
      refine s_ixl (.of e) (atI_at (j := 0) rfl rfl) ?_
      walk_at "st"
      refine ⟨s, _, 0, 0, rfl, rfl, e, rfl, ?_⟩
      walk_at "st"
      exact q _ _ (Int.emod_nonneg _ (by omega)) (Int.emod_lt_of_pos _ hm) (.put (by simp)) ⟨_, y, z, upd_same, Int.ediv_nonneg hx (by omega), hy, hy2, hz, by omega⟩
    · walk_at "st"
      refine s_ixl (.of e) (atI_at (j := 2) rfl rfl) ?_
      walk_at "st"
      refine ⟨s, _, 2, 2, rfl, rfl, e, rfl, ?_⟩
      walk_at "st"
      have e1 : (upd H s (.lst [.int x, .int y, .int (z + 1)])) s = some (.lst [.int x, .int y, .int (z + 1)]) := upd_same
      refine s_ixl (.of e1) (atI_at (j := 1) rfl rfl) ?_
      walk_at "st"
      refine s_ixl (.of e1) (atI_at (j := 2) rfl rfl) ?_
      walk_at "st"
      refine s_ixl (.of e1) (atI_at (j := 2) rfl rfl) ?_
      have h1 : 0 ≤ (y + 6364137 * (z + 1) + 1442695) ^ Int.toNat 3 % 2147483647 := Int.emod_nonneg _ (by decide)
      have h2 : (y + 6364137 * (z + 1) + 1442695) ^ Int.toNat 3 % 2147483647 < 2147483647 := Int.emod_lt_of_pos _ (by decide)
      generalize (y + 6364137 * (z + 1) + 1442695) ^ Int.toNat 3 % 2147483647 = r at h1 h2 ⊢
      walk_at "st"
      exact q _ _ (Int.emod_nonneg _ (show m ≠ 0 by omega)) (Int.emod_lt_of_pos _ hm) (.put (by simp)) ⟨x, y, z + 1, e1, hx, hy, hy2, by omega, by omega⟩


theorem ok_Lpick {P : Program} {w : World} {K : PySem.W.Frag} {mg : Str → Option Value} {base : Heap} (T : Bn mg)
    (C_Ldraw : Df P w K mg base CX0 1 "_law_draw" ["spring", "many"] (sp_Ldraw K)) 
    {f : Addr} {fd : FuncData} (F : FunD K "_law_pick" "_law_pick" (defArgs s_Lpick) (defBody s_Lpick) (defScope s_Lpick) [] [] f fd) :
    FnOk P w K mg base CX0 2 f fd ["spring", "some"] (sp_Lpick K) := by
  refine F.ok sc_Lpick (fun vs H Q E h => ?_) (fun cdv A outer s H vs Q E hr h => ?_)
  · obtain ⟨s, a, n, xs, rfl, _⟩ := h
    rfl
  · obtain ⟨s, a, n, xs, rfl, hs, hn, ha, hne, h0, h1, q⟩ := h
    refine ⟨_, PSs.nox (pss_one (ps_ret (pe_ix (kx_list K) (pv 1) (pe_df C_Ldraw hr (pa_cons (pv 0) (pa_cons (pe_callB (klen K) (by rfl) T.len (by decide +kernel) (pa_cons (pv 1) pa_nil)) pa_nil))) (fun _ _ => rfl)))), ?_⟩
    walk_at "go"
    refine ⟨_, _, rfl, .inl (len_l ha), ?_⟩
    walk_at "st"
    refine ⟨s, n, xs.length, rfl, hs, hn, by omega, by omega, fun d H1 d0 d1 g hs1 => ?_⟩
    have hd : d.toNat < xs.length := by omega
    refine s_ixl (sql_nx g (by simpa using hne) ha) (atI_at (j := d.toNat) (List.getElem?_eq_getElem hd) (by omega)) ?_
    exact q _ _ (List.getElem_mem hd) g hs1

theorem perm_take {α : Type} {acc lf xs : List α} {k : Nat} {y : α} (h : (acc ++ lf).Perm xs) (hy : lf[k]? = some y) : (acc ++ [y] ++ lf.eraseIdx k).Perm xs := by
  have p := perm_erase hy
  rw [List.append_assoc]
  exact (List.Perm.append_left acc p).trans h
theorem ok_Lmixed {P : Program} {w : World} {K : PySem.W.Frag} {mg : Str → Option Value} {base : Heap} (T : Bn mg)
    (C_Ldraw : Df P w K mg base CX0 1 "_law_draw" ["spring", "many"] (sp_Ldraw K)) 
    {f : Addr} {fd : FuncData} (F : FunD K "_law_mixed" "_law_mixed" (defArgs s_Lmixed) (defBody s_Lmixed) (defScope s_Lmixed) [] [] f fd) :
    FnOk P w K mg base CX0 2 f fd ["spring", "some"] (sp_Lmixed K) := by
  refine F.ok sc_Lmixed (fun vs H Q E h => ?_) (fun cdv A outer s H vs Q E hr h => ?_)
  · obtain ⟨s, a, n, xs, rfl, _⟩ := h
    rfl
  · obtain ⟨s, a, n, xs, rfl, hs, hn, ha, hne, h1, q⟩ := h
    refine ⟨_, PSs.nox (pss_cons (ps_set (i := 2) sc_Lmixed.nd rfl (Or.inr rfl) (pe_callTy (klist_of K) (by rfl) T.list (by decide +kernel) (pa_cons (pv 1) pa_nil)))
    (pss_one (ps_ret (pe_lc (own := [("k", 3)]) (tt := tYes) rfl sc_Lmixed.nd (pi_range1 (by rfl) T.range (pa_cons (pe_callB (klen K) (by rfl) T.len (by decide +kernel) (pa_cons (pv 2) pa_nil)) pa_nil)) (blkOk_by (N := n_Lmixed) (sc := defScope s_Lmixed) (by decide +kernel)) (fun _ _ _ _ _ => (pg_name (i := 3) sc_Lmixed.nd rfl (Or.inl rfl))) (fun _ _ _ _ _ => pts_nil) (fun _ _ _ _ _ => (kbm K PySem.F.plainAttrs_list PySem.F.slot_list_pop PySem.F.type_list_pop mt_popAt (pv 2) (pa_cons (pe_df C_Ldraw hr (pa_cons (pv 0) (pa_cons (pe_callB (klen K) (by rfl) T.len (by decide +kernel) (pa_cons (pv 2) pa_nil)) pa_nil))) pa_nil))))))), ?_⟩
    walk_at "go"
    refine ⟨_, _, rfl, .inl ha, fun l nl => ?_⟩
    walk_at "st"
    have hls : s ≠ l := fun z => hs.al (by rw [z]; exact nl)
    have g0 : Nx [s] H (upd H l (.lst xs)) := .new nl
    refine ⟨_, _, rfl, .inl (len_l (.of upd_same)), ?_⟩
    walk_at "st"
    refine ⟨_, rfl, by omega, by omega, fun D nD => ?_⟩
    have hDl : D ≠ l := fun z => by rw [z, upd_same] at nD; cases nD
    have hDs : s ≠ D := fun z => (g0.th s hs.al) (by rw [z]; exact nD)
    refine lc_range (fun i H' => ∃ acc lf, H' D = some (.lst acc) ∧ H' l = some (.lst lf) ∧ acc.length = i ∧ (acc ++ lf).Perm xs ∧ Nx [s] H H' ∧ Spr H' s (n + i)) ?_ ?_ ?_
    · exact ⟨[], xs, upd_same, by rw [upd_ne hDl.symm, upd_same], rfl, .refl _, g0.newP nD, (hs.nx (S := []) (.new nl) (by simp)).nx (S := []) (.new nD) (by simp)⟩
    · rintro i H1 hi ⟨acc, lf, eD, el, hl, hp, g1, hs1⟩
      have hlen := hp.length_eq
      rw [List.length_append] at hlen
      walk_at "st"
      refine ⟨rfl, ?_⟩
      walk_at "st"
      refine ⟨.inl ⟨rfl, _, .of el⟩, ?_⟩
      walk_at "st"
      refine ⟨_, _, rfl, .inl (len_l (.of el)), ?_⟩
      walk_at "st"
      refine ⟨s, n + i, lf.length, rfl, hs1, by omega, by omega, by omega, fun d H2 d0 d1 g2 hs2 => ?_⟩
      have el2 := g2.kp l _ (by simpa using hls.symm) el
      have eD2 := g2.kp D _ (by simpa using hDs.symm) eD
      have hd : d.toNat < lf.length := by omega
      refine ⟨l, lf, d, d.toNat, lf[d.toNat], rfl, rfl, el2, by omega, by omega, by rw [seqIndex_of d0 d1], List.getElem?_eq_getElem hd, ?_⟩
      have hn2 : H l = none := nl
      refine ⟨acc, by rw [upd_ne hDl]; exact eD2, Nat.lt_of_lt_of_le (show acc.length < 100000 by omega) (by decide), acc ++ [lf[d.toNat]], lf.eraseIdx d.toNat, upd_same, by rw [upd_ne hDl.symm, upd_same], by simp [hl], perm_take hp (List.getElem?_eq_getElem hd), ?_, ?_⟩
      · have ga : Nx [D, l, s] H1 (upd (upd H2 l (.lst (lf.eraseIdx d.toNat))) D (.lst (acc ++ [lf[d.toNat]]))) := ((g2.sing (by simp)).putP (by simp)).putP (by simp)
        exact (((g1.sing (by simp)).trans ga).drop (Nx.fresh g0 nD)).drop nl
      · exact (hs2.nx (S := [l]) (.put (by simp)) (by simpa using hls)).nx (S := [D]) (.put (by simp)) (by simpa using hDs)
    · rintro H1 ⟨acc, lf, eD, el, hl, hp, g1, hs1⟩
      have hlen := hp.length_eq
      rw [List.length_append] at hlen
      have e0 : lf = [] := List.length_eq_zero_iff.mp (by simp at hl; omega)
      subst e0
      rw [List.append_nil] at hp
      exact q D acc H1 (Nx.fresh g0 nD) hp eD g1 (by simpa using hs1)


theorem ok_Lspring {P : Program} {w : World} {K : PySem.W.Frag} {mg : Str → Option Value} {base : Heap} (T : Bn mg) 
    {f : Addr} {fd : FuncData} (F : FunD K "_law_spring" "_law_spring" (defArgs s_Lspring) (defBody s_Lspring) (defScope s_Lspring) [] [] f fd) :
    FnOk P w K mg base CX0 1 f fd ["script", "turn"] (sp_Lspring K) := by
  refine F.ok sc_Lspring (fun vs H Q E h => ?_) (fun cdv A outer s H vs Q E hr h => ?_)
  · obtain ⟨a, ns, t, rfl, _⟩ := h
    rfl
  · obtain ⟨a, ns, t, rfl, ha, hl, ht, q⟩ := h
    refine ⟨_, PSs.nox (pss_cons (ps_parG2 (i1 := 2) (i2 := 3) rfl sc_Lspring.nd rfl rfl (by decide) (Or.inl rfl) (Or.inl rfl) (pa_cons (pe_ifExp (pt_cmpR op_lt (pv 1) (pe_callB (klen K) (by rfl) T.len (by decide +kernel) (pa_cons (pv 0) pa_nil)) (nomark _)) (pe_ix (kx_list K) (pv 0) (pv 1) (fun _ _ => rfl)) (pe_op op_add (pe_op op_mul pe_int (pv 1)) (pe_callB (klen K) (by rfl) T.len (by decide +kernel) (pa_cons (pv 0) pa_nil)))) (pa_cons (pe_op op_add pe_int (pe_op op_mul pe_int (pv 1))) pa_nil)) (by rfl))
    (pss_cons (ps_for PassesOwn.never rfl (ki_enum K (by rfl) T.enumerate (pa_cons (pe_slice (ksl_list K) (pv 0) po_none (po_some pe_int)) pa_nil)) (kgtup (n := 2) K rfl (pgs_cons (pg_name (i := 4) sc_Lspring.nd rfl (Or.inl rfl)) (pgs_cons (pg_name (i := 5) sc_Lspring.nd rfl (Or.inl rfl)) pgs_nil)))
      (pss_one (ps_set (i := 3) sc_Lspring.nd rfl (Or.inl rfl) (pe_op op_mod (pe_callTy call_int1 (by rfl) T.int (by decide +kernel) (pa_cons (pe_op op_add (pe_op op_add (pe_op op_add (pe_op op_mul (pv 3) pe_int) (pv 5)) (pe_op op_mul pe_int (pv 4))) pe_int) pa_nil)) pe_int))))
    (pss_one (ps_ret (pe_lst (pa_cons (pe_ifExp (pt_cmpR op_ge (pv 2) (pe_op op_pow pe_int pe_int) (nomark _)) (pv 2) pe_int) (pa_cons (pe_op op_mod (pe_callTy call_int1 (by rfl) T.int (by decide +kernel) (pa_cons (pe_op op_add (pv 3) (pe_op op_mul (pv 2) pe_int)) pa_nil)) pe_int) (pa_cons pe_int pa_nil)))))))), ?_⟩
    walk_at "go"
    refine ⟨_, _, rfl, .inl (len_l ha), ?_⟩
    walk_at "st"
    have cut : cutV (ns.map V.int) none (some 63) = ns.map V.int := by
      unfold cutV
      rw [HT.sIx_none, show ((63 : Int)) = ((63 : Nat) : Int) from rfl, HT.sIx_nat, List.length_map]
      simp only [List.drop_zero, Nat.sub_zero]
      exact List.take_of_length_le (by rw [List.length_map]; omega)
    refine ite_d (fun hc => ?_) (fun hc => ?_)
    · rw [List.length_map] at hc
      have ht' : t < ns.length := by omega
      walk_at "st"
      refine s_ixl ha (atI_at (j := t) (v := .int ns[t]) (by rw [List.getElem?_map, List.getElem?_eq_getElem ht']; rfl) rfl) ?_
      generalize ns[t] = cell
      walk_at "st"
      refine ⟨a, _, rfl, ha, fun p np => ?_⟩
      rw [cut]
      walk_at "st"
      refine ⟨p, _, rfl, .of upd_same, ?_⟩
      refine for_runs (runs_enum (xs := ns.map V.int)) (fun i σ H' => ∃ mix y4 y5, σ = [some (V.ref a), some (.int t), some (.int cell), some (.int mix), y4, y5] ∧ 0 ≤ mix ∧ mix < 2147483647 ∧ Nx [] H H' ∧ H' p = some (.lst (ns.map V.int))) ?_ ?_ ?_ ?_
      · exact ⟨_, _, _, rfl, by omega, by omega, .new np, upd_same⟩
      · rintro i σ H' ⟨_, _, _, _, _, _, _, e⟩
        exact .of e
      · rintro i σ H1 x H2 hi ⟨mix, y4, y5, rfl, m0, m1, g, e⟩ ⟨T1, x1, rfl, nT, rfl, ex⟩
        obtain ⟨z, rfl⟩ : ∃ z, x1 = .int z := by
          rw [List.getElem?_map] at ex
          obtain ⟨z, _, e⟩ := Option.map_eq_some_iff.mp ex
          exact ⟨z, e.symm⟩
        walk_at "st"
        exact ⟨_, _, _, rfl, Int.emod_nonneg _ (by decide), Int.lt_trans (Int.emod_lt_of_pos _ (by decide)) (by decide), g.newP nT, by rw [upd_ne (ne_of_none e nT)]; exact e⟩
      · rintro σ H1 ⟨mix, y4, y5, rfl, m0, m1, g, e⟩
        walk_at "st"
        refine ite_d (fun h9 => ?_) (fun h9 => ?_)
        · walk_at "st"
          intro s ns1
          have h0 : (0 : Int) ≤ cell := Int.le_trans (by decide) h9
          exact q s _ (Nx.fresh g ns1) (g.newP ns1) ⟨_, _, _, upd_same, h0, Int.emod_nonneg _ (by decide), Int.emod_lt_of_pos _ (by decide), by omega, by omega⟩
        · walk_at "st"
          intro s ns1
          exact q s _ (Nx.fresh g ns1) (g.newP ns1) ⟨_, _, _, upd_same, by omega, Int.emod_nonneg _ (by decide), Int.emod_lt_of_pos _ (by decide), by omega, by omega⟩
    · walk_at "st"
      refine ⟨_, _, rfl, .inl (len_l ha), ?_⟩
      walk_at "st"
      generalize 7 * (t : Int) + ((ns.map V.int).length : Nat) = cell
      walk_at "st"
      refine ⟨a, _, rfl, ha, fun p np => ?_⟩
      rw [cut]
      walk_at "st"
      refine ⟨p, _, rfl, .of upd_same, ?_⟩
      refine for_runs (runs_enum (xs := ns.map V.int)) (fun i σ H' => ∃ mix y4 y5, σ = [some (V.ref a), some (.int t), some (.int cell), some (.int mix), y4, y5] ∧ 0 ≤ mix ∧ mix < 2147483647 ∧ Nx [] H H' ∧ H' p = some (.lst (ns.map V.int))) ?_ ?_ ?_ ?_
      · exact ⟨_, _, _, rfl, by omega, by omega, .new np, upd_same⟩
      · rintro i σ H' ⟨_, _, _, _, _, _, _, e⟩
        exact .of e
      · rintro i σ H1 x H2 hi ⟨mix, y4, y5, rfl, m0, m1, g, e⟩ ⟨T1, x1, rfl, nT, rfl, ex⟩
        obtain ⟨z, rfl⟩ : ∃ z, x1 = .int z := by
          rw [List.getElem?_map] at ex
          obtain ⟨z, _, e⟩ := Option.map_eq_some_iff.mp ex
          exact ⟨z, e.symm⟩
        walk_at "st"
        exact ⟨_, _, _, rfl, Int.emod_nonneg _ (by decide), Int.lt_trans (Int.emod_lt_of_pos _ (by decide)) (by decide), g.newP nT, by rw [upd_ne (ne_of_none e nT)]; exact e⟩
      · rintro σ H1 ⟨mix, y4, y5, rfl, m0, m1, g, e⟩
        walk_at "st"
        refine ite_d (fun h9 => ?_) (fun h9 => ?_)
        · walk_at "st"
          intro s ns1
          have h0 : (0 : Int) ≤ cell := Int.le_trans (by decide) h9
          exact q s _ (Nx.fresh g ns1) (g.newP ns1) ⟨_, _, _, upd_same, h0, Int.emod_nonneg _ (by decide), Int.emod_lt_of_pos _ (by decide), by omega, by omega⟩
        · walk_at "st"
          intro s ns1
          exact q s _ (Nx.fresh g ns1) (g.newP ns1) ⟨_, _, _, upd_same, by omega, Int.emod_nonneg _ (by decide), Int.emod_lt_of_pos _ (by decide), by omega, by omega⟩


theorem ok_Lw_name {P : Program} {w : World} {K : PySem.W.Frag} {mg : Str → Option Value} {base : Heap} (T : Bn mg)
    (C_Ldraw : Df P w K mg base CX0 1 "_law_draw" ["spring", "many"] (sp_Ldraw K))
    (C_Lpick : Df P w K mg base CX0 2 "_law_pick" ["spring", "some"] (sp_Lpick K)) 
    {f : Addr} {fd : FuncData} (F : FunD K "_law_w_name" "_law_w_name" (defArgs s_Lw_name) (defBody s_Lw_name) (defScope s_Lw_name) [] [] f fd) :
    FnOk P w K mg base CX0 3 f fd ["spring"] (sp_Lw_name K) := by
  refine F.ok sc_Lw_name (fun vs H Q E h => ?_) (fun cdv A outer s H vs Q E hr h => ?_)
  · obtain ⟨s, n, rfl, _⟩ := h
    rfl
  · obtain ⟨s, n, rfl, hs, hn, q⟩ := h
    refine ⟨_, PSs.nox (pss_cons (ps_set (i := 1) sc_Lw_name.nd rfl (Or.inl rfl) pe_str)
    (pss_cons (ps_set (i := 2) sc_Lw_name.nd rfl (Or.inl rfl) (pe_ix ix_str (pv 1) (pe_df C_Ldraw hr (pa_cons (pv 0) (pa_cons pe_int pa_nil))) (fun _ _ => rfl)))
    (pss_cons (ps_for PassesOwn.never rfl (pi_range1 (by rfl) T.range (pa_cons (pe_df C_Lpick hr (pa_cons (pv 0) (pa_cons (pe_lst (pa_cons pe_int (pa_cons pe_int (pa_cons pe_int (pa_cons pe_int (pa_cons pe_int (pa_cons pe_int pa_nil))))))) pa_nil))) pa_nil)) (pg_name (i := 3) sc_Lw_name.nd rfl (Or.inl rfl))
      (pss_one (ps_set (i := 2) sc_Lw_name.nd rfl (Or.inl rfl) (pe_op op_add_str (pv 2) (pe_ix ix_str (pv 1) (pe_df C_Ldraw hr (pa_cons (pv 0) (pa_cons pe_int pa_nil))) (fun _ _ => rfl))))))
    (pss_one (ps_ret (pv 2)))))), ?_⟩
    walk_at "go"
    refine ⟨s, n, 26, rfl, hs, by omega, by omega, by omega, fun d H1 d0 d1 g1 hs1 => ?_⟩
    obtain ⟨c, hc, hl⟩ := sig_let d0 d1
    refine ⟨sigS, d, c, rfl, rfl, by decide +kernel, hc, ?_⟩
    walk_at "st"
    intro p np
    have hps : p ≠ s := fun z => hs1.al (by rw [← z]; exact np)
    refine ⟨s, p, _, [.int 0, .int 1, .int 1, .int 2, .int 3, .int 7], rfl, hs1.nx (S := []) (.new np) (by simp), by omega, .of upd_same, hps, by simp, by simp, fun x H2 hx g2 hs2 => ?_⟩
    have hx' : ∃ m : Nat, x = .int m ∧ m ≤ 7 := by
      simp only [List.mem_cons, List.not_mem_nil, or_false] at hx
      rcases hx with rfl | rfl | rfl | rfl | rfl | rfl
      · exact ⟨0, rfl, by omega⟩
      · exact ⟨1, rfl, by omega⟩
      · exact ⟨1, rfl, by omega⟩
      · exact ⟨2, rfl, by omega⟩
      · exact ⟨3, rfl, by omega⟩
      · exact ⟨7, rfl, by omega⟩
    obtain ⟨m, rfl, hm⟩ := hx'
    walk_at "st"
    refine ⟨m, rfl, by omega, by omega, ?_⟩
    have g3 : Nx [s] H H2 := (g1.newP np).trans g2
    refine for_runs runs_range (fun i σ H' => ∃ x y, σ = [some (V.ref s), some (.str sigS), some (.str x), y] ∧ NameOk x ∧ x.length = i + 1 ∧ Nx [s] H H' ∧ Spr H' s (n + 2 + i)) ?_ (fun _ _ _ _ => trivial) ?_ ?_
    · exact ⟨_, _, rfl, .one hl, rfl, g3, hs2⟩
    · rintro i σ H3 _ _ hi ⟨x, y, rfl, ok, hx, g4, hs4⟩ ⟨rfl, rfl⟩
      walk_at "st"
      refine ⟨s, _, 36, rfl, hs4, by omega, by omega, by omega, fun d H4 d0 d1 g5 hs5 => ?_⟩
      obtain ⟨c, hc, hl⟩ := sig_at d0 d1
      refine ⟨sigS, d, c, rfl, rfl, by decide +kernel, hc, ?_⟩
      walk_at "st"
      refine ⟨x, _, rfl, rfl, Nat.le_trans (show x.length + (⟨#[c]⟩ : Str).length ≤ 100 by rw [one_len]; omega) (by decide), ?_⟩
      walk_at "st"
      exact ⟨_, _, rfl, ok.app (by omega) hl, by rw [NameOk.app.StrLaws_len, hx], g4.trans g5, hs5⟩
    · rintro σ H3 ⟨x, y, rfl, ok, hx, g4, hs4⟩
      walk_at "st"
      exact q x _ ok g4 (hs4.le (by omega))

theorem cutS_7 (x : Str) : (cutS x none (some 7)).cps.toList = x.cps.toList.take 7 := by
  show (((x.cps.toList.drop (HT.sIx x.length 0 none)).take (HT.sIx x.length x.length (some 7) - HT.sIx x.length 0 none)).toArray).toList = _
  rw [HT.sIx_none, show ((7 : Int)) = ((7 : Nat) : Int) from rfl, HT.sIx_nat, str_len]
  simp only [List.drop_zero, Nat.sub_zero]
  by_cases h : x.cps.toList.length ≤ 7
  · rw [Nat.min_eq_right h, List.take_length, List.take_of_length_le h]
  · rw [Nat.min_eq_left (by omega)]
/-- a name's first signs, one behind them -/
theorem cut_name {x y : Str} (hx : NameOk x) (hy : ∃ c ∈ sigC, y = ⟨#[c]⟩) : NameOk (cutS x none (some 7) ++ y) := by
  obtain ⟨c, hc, rfl⟩ := hy
  have e : (cutS x none (some 7)).cps.toList = x.cps.toList.take 7 := cutS_7 x
  have hl : (cutS x none (some 7)).length ≤ 7 := by rw [str_len, e, List.length_take]; omega
  refine NameOk.app ⟨?_, by omega, ?_, ?_⟩ hl hc
  · rw [str_len, e, List.length_take, ← str_len]; have := hx.lo; omega
  · obtain ⟨f, h1, h2⟩ := hx.first
    exact ⟨f, by rw [e, List.getElem?_take]; simpa using h1, h2⟩
  · intro d hd
    rw [e] at hd
    exact hx.all d (List.mem_of_mem_take hd)
theorem ok_Lw_names {P : Program} {w : World} {K : PySem.W.Frag} {mg : Str → Option Value} {base : Heap} (T : Bn mg)
    (C_Lw_name : Df P w K mg base CX0 3 "_law_w_name" ["spring"] (sp_Lw_name K))
    (C_Ldraw : Df P w K mg base CX0 1 "_law_draw" ["spring", "many"] (sp_Ldraw K))
    (C_Lpick : Df P w K mg base CX0 2 "_law_pick" ["spring", "some"] (sp_Lpick K)) 
    {f : Addr} {fd : FuncData} (F : FunD K "_law_w_names" "_law_w_names" (defArgs s_Lw_names) (defBody s_Lw_names) (defScope s_Lw_names) [] [] f fd) :
    FnOk P w K mg base CX0 4 f fd ["spring", "many"] (sp_Lw_names K) := by
  refine F.ok sc_Lw_names (fun vs H Q E h => ?_) (fun cdv A outer s H vs Q E hr h => ?_)
  · obtain ⟨s, n, m, rfl, _⟩ := h
    rfl
  · obtain ⟨s, n, m, rfl, hs, hn, hm, q⟩ := h
    refine ⟨_, PSs.nox (pss_cons (ps_set (i := 2) sc_Lw_names.nd rfl (Or.inl rfl) (pe_lst pa_nil))
    (pss_cons (ps_for PassesOwn.never rfl (pi_range1 (by rfl) T.range (pa_cons (pv 1) pa_nil)) (pg_name (i := 3) sc_Lw_names.nd rfl (Or.inl rfl))
      (pss_cons (ps_set (i := 4) sc_Lw_names.nd rfl (Or.inl rfl) (pe_df C_Lw_name hr (pa_cons (pv 0) pa_nil)))
    (pss_cons (ps_if (PW.pt (pw_and (kt_truth K (pv 2) (by intro _; rfl)) (pw_and1 (pt_cmpR op_eq (pe_df C_Ldraw hr (pa_cons (pv 0) (pa_cons pe_int pa_nil))) pe_int (nomark _))))) (pss_one (ps_set (i := 4) sc_Lw_names.nd rfl (Or.inl rfl) (pe_op op_add_str (pe_slice sl_str (pe_df C_Lpick hr (pa_cons (pv 0) (pa_cons (pv 2) pa_nil))) po_none (po_some pe_int)) (pe_df C_Lpick hr (pa_cons (pv 0) (pa_cons (pe_lst (pa_cons pe_str (pa_cons pe_str (pa_cons pe_str (pa_cons pe_str (pa_cons pe_str pa_nil)))))) pa_nil)))))) pss_nil)
    (pss_cons (ps_set (i := 5) sc_Lw_names.nd rfl (Or.inl rfl) pe_int)
    (pss_cons (ps_while PassesOwn.never (pt_cmpR (kin_seq K) (pv 4) (pv 2) (by rfl)) (pss_cons (ps_set (i := 4) sc_Lw_names.nd rfl (Or.inl rfl) (pe_op op_add_str (pe_ix ix_str pe_str (pe_op op_mod (pv 5) pe_int) (fun _ _ => rfl)) (pe_callTy call_str_int (by rfl) T.str (by decide +kernel) (pa_cons (pe_op op_add (pe_op op_fdiv (pv 5) pe_int) (pv 3)) pa_nil))))
    (pss_one (ps_set (i := 5) sc_Lw_names.nd rfl (Or.inl rfl) (pe_op op_add (pv 5) pe_int)))))
    (pss_one (ps_expr (kbm K PySem.F.plainAttrs_list PySem.F.slot_list_append PySem.F.type_list_append mt_append (pv 2) (pa_cons (pv 4) pa_nil)))))))))
    (pss_one (ps_ret (pv 2))))), ?_⟩
    walk_at "go"
    intro p np
    have hps : p ≠ s := fun z => hs.al (by rw [← z]; exact np)
    walk_at "st"
    refine ⟨m, rfl, by omega, by omega, ?_⟩
    refine for_runs runs_range (fun i σ H' => ∃ (xs : List Str) (y3 y4 y5 : Option V), σ = [some (V.ref s), some (.int m), some (.ref p), y3, y4, y5] ∧ xs.length = i ∧ (∀ x ∈ xs, NameOk x) ∧ xs.Nodup ∧ H' p = some (.lst (xs.map V.str)) ∧ Nx [s] H H' ∧ Spr H' s (n + i * 12)) ?_ (fun _ _ _ _ => trivial) ?_ ?_
    · exact ⟨[], _, _, _, rfl, rfl, by simp, List.nodup_nil, upd_same, .new np, by simpa using hs.nx (S := []) (.new np) (by simp)⟩
    · rintro i σ _ _ H1 hi ⟨xs, y3, y4, y5, rfl, hl, ok, nd, e, g, hs1⟩ ⟨rfl, rfl⟩
      walk_at "st"
      apply join2 (fun one H3 => NameOk one ∧ Nx [s] H1 H3 ∧ Spr H3 s (n + i * 12 + 12))
      case h1 =>
        intro k
        refine ⟨s, _, rfl, hs1, by omega, fun x H2 okx g2 hs2 => ?_⟩
        have e2 := g2.kp p _ (by simpa using hps) e
        walk_at "st"
        refine ⟨_, .inl (.inl ⟨_, .of e2, rfl⟩), ?_⟩
        refine ite_b ?a ?b
        case b =>
          intro hb
          walk_at "st"
          exact k _ H2 ⟨okx, g2, hs2.le (by omega)⟩
        case a =>
          intro hb
          walk_at "st"
          refine ⟨s, _, 4, rfl, hs2, by omega, by omega, by omega, fun d H3 d0 d1 g3 hs3 => ?_⟩
          walk_at "st"
          refine ite_d (fun _ => ?_) (fun _ => ?_)
          · walk_at "st"
            have e3 := g3.kp p _ (by simpa using hps) e2
            have hpos : 0 < (xs.map V.str).length := by
              cases xs with
              | nil => simp at hb
              | cons a r => simp
            refine ⟨s, p, _, _, rfl, hs3, by omega, .of e3, hps, hpos, by rw [List.length_map]; omega, fun v H4 hv g4 hs4 => ?_⟩
            obtain ⟨z, hz, rfl⟩ := List.mem_map.mp hv
            walk_at "st"
            refine ⟨z, rfl, Nat.le_trans (ok z hz).hi (by decide), ?_⟩
            walk_at "st"
            intro p1 np1
            have hp1 : p1 ≠ s := fun z => hs4.al (by rw [← z]; exact np1)
            refine ⟨s, p1, _, [.str "a", .str "m", .str "z", .str "0", .str "9"], rfl, hs4.nx (S := []) (.new np1) (by simp), by omega, .of upd_same, hp1, by simp, by simp, fun v2 H5 hv2 g5 hs5 => ?_⟩
            have hy : ∃ w, v2 = .str w ∧ ∃ c ∈ sigC, w = ⟨#[c]⟩ := by
              simp only [List.mem_cons, List.not_mem_nil, or_false] at hv2
              rcases hv2 with rfl | rfl | rfl | rfl | rfl
              · exact ⟨_, rfl, 97, by decide, by decide +kernel⟩
              · exact ⟨_, rfl, 109, by decide, by decide +kernel⟩
              · exact ⟨_, rfl, 122, by decide, by decide +kernel⟩
              · exact ⟨_, rfl, 48, by decide, by decide +kernel⟩
              · exact ⟨_, rfl, 57, by decide, by decide +kernel⟩
            obtain ⟨w, rfl, hw⟩ := hy
            have okc := cut_name (ok z hz) hw
            refine ⟨_, w, rfl, rfl, ?_, ?_⟩
            · have h8 := okc.hi
              have : (cutS z none (some 7) ++ w).length = (cutS z none (some 7)).length + w.length := by rw [str_len, str_app, List.length_append, ← str_len, ← str_len]
              exact Nat.le_trans (show _ ≤ 8 by omega) (by decide)
            · walk_at "st"
              exact k _ H5 ⟨okc, g2.trans (g3.trans ((g4.newP np1).trans g5)), hs5.le (by omega)⟩
          · walk_at "st"
            exact k _ H3 ⟨okx, g2.trans g3, hs3.le (by omega)⟩
      case h2 =>
        intro one H3 hP
        obtain ⟨ok1, g3, hs3⟩ := hP
        have e3 := g3.kp p _ (by simpa using hps) e
        walk_at "st"
        refine ⟨fun μ σ H' => ∃ (a : Nat) (o1 : Str), σ = [some (V.ref s), some (.int m), some (.ref p), some (.int (0 + i)), some (.str o1), some (.int a)] ∧ H' = H3 ∧ NameOk o1 ∧ μ = xs.length + 2 - a ∧ (a = 0 ∨ o1 = cand i (a - 1)) ∧ (∀ j, j + 1 < a → cand i j ∈ xs) ∧ a ≤ xs.length + 1, ⟨_, 0, one, rfl, rfl, ok1, rfl, .inl rfl, fun j hj => absurd hj (by omega), by omega⟩, ?_⟩
        rintro μ σ H4 ⟨a, o1, rfl, rfl, ok2, rfl, hc, hb, ha⟩
        walk_at "st"
        refine ⟨p, _, rfl, .inl (.of e3), rfl, flat_strs xs, ?_⟩
        rw [if_neg (by decide), inV_str]
        walk_at "st"
        refine ite_d (fun hin => ?_) (fun hin => ?_)
        · have hall : ∀ j < a, cand i j ∈ xs := by
            intro j hj
            by_cases h : j + 1 < a
            · exact hb j h
            · rcases hc with rfl | rfl
              · omega
              · have : j = a - 1 := by omega
                rw [this]; exact hin
          have hfew := cand_few (k := i) (by omega) (n := a) (by omega) hall
          refine ⟨fun σ' H' => ∃ (o1 : Str), σ' = [some (V.ref s), some (.int m), some (.ref p), some (.int (0 + i)), some (.str o1), some (.int ((a + 1 : Nat) : Int))] ∧ H' = H4 ∧ o1 = cand i a, ?_, ?_⟩
          · rintro σ' H' ⟨o1, rfl, rfl, rfl⟩
            exact ⟨_, by omega, a + 1, _, rfl, rfl, cand_ok (by omega) (by omega), rfl, .inr rfl, fun j hj => hall j (by omega), by omega⟩
          · walk_at "st"
            have hm26 : (0 : Int) ≤ (a : Int) % 26 ∧ (a : Int) % 26 < 26 := by omega
            obtain ⟨h1, h2⟩ := let_at hm26.1 hm26.2
            refine ⟨letS, _, _, rfl, rfl, by decide +kernel, h1, ?_⟩
            walk_at "st"
            refine ⟨_, rfl, Nat.lt_of_le_of_lt (Nat.log2_le_self _) (by omega), ?_⟩
            have enum : (a : Int) / 26 + (0 + (i : Int)) = ((a / 26 + i : Nat) : Int) := by omega
            have emod : ((a : Int) % 26).toNat = a % 26 := by omega
            rw [enum, emod]
            have okc := cand_ok (k := i) (j := a) (by omega) (by omega)
            refine ⟨_, numS (a / 26 + i), rfl, rfl, ?_, ?_⟩
            · have hl8 := okc.hi
              have : (cand i a).length = (⟨#[letC.getD (a % 26) 0]⟩ : Str).length + (numS (a / 26 + i)).length := by
                unfold cand
                rw [str_len, str_app, List.length_append, ← str_len, ← str_len]
              exact Nat.le_trans (show _ ≤ 8 by omega) (by decide)
            · walk_at "st"
              exact ⟨_, by rw [show ((a + 1 : Nat) : Int) = (a : Int) + 1 by omega]; rfl, rfl, rfl⟩
        · walk_at "st"
          refine ⟨.inl ⟨rfl, _, .of e3⟩, ?_⟩
          walk_at "st"
          refine ⟨p, _, _, rfl, rfl, e3, ?_, ?_⟩
          · rw [List.length_map]; exact Nat.lt_of_lt_of_le (show xs.length < 100 by omega) (by decide)
          · walk_at "st"
            refine ⟨xs ++ [o1], _, _, _, rfl, by simp [hl], ?_, ?_, by rw [upd_same]; simp, ?_, ?_⟩
            · intro x hx
              rcases List.mem_append.mp hx with hx | hx
              · exact ok x hx
              · rw [List.mem_singleton.mp hx]; exact ok2
            · rw [List.nodup_append]
              refine ⟨nd, by simp, ?_⟩
              intro x hx y hy z
              rw [List.mem_singleton.mp hy] at z
              exact hin (by rw [← z]; exact hx)
            · have ga : Nx [p, s] H (upd H4 p (.lst (xs.map V.str ++ [V.str o1]))) := (((g.trans g3).sing (by simp))).putP (by simp)
              exact ga.drop np
            · exact (hs3.nx (S := [p]) (.put (by simp)) (by simpa using hps.symm)).le (by omega)
    · rintro σ H1 ⟨xs, y3, y4, y5, rfl, hl, ok, nd, e, g, hs1⟩
      walk_at "st"
      exact q p xs H1 np hl ok nd e g hs1


theorem ok_Lr_lengths {P : Program} {w : World} {K : PySem.W.Frag} {mg : Str → Option Value} {base : Heap} (T : Bn mg)
    (C_Ldraw : Df P w K mg base CX0 1 "_law_draw" ["spring", "many"] (sp_Ldraw K))
    (C_Lpick : Df P w K mg base CX0 2 "_law_pick" ["spring", "some"] (sp_Lpick K)) 
    {f : Addr} {fd : FuncData} (F : FunD K "_law_r_lengths" "_law_r_lengths" (defArgs s_Lr_lengths) (defBody s_Lr_lengths) (defScope s_Lr_lengths) [] [] f fd) :
    FnOk P w K mg base CX0 3 f fd ["spring", "hours", "many"] (sp_Lr_lengths K) := by
  refine F.ok sc_Lr_lengths (fun vs H Q E h => ?_) (fun cdv A outer s H vs Q E hr h => ?_)
  · obtain ⟨s, n, h, m, rfl, _⟩ := h
    rfl
  · obtain ⟨s, n, h, m, rfl, hs, hn, h1, h2, hm, q⟩ := h
    refine ⟨_, PSs.nox (pss_cons (ps_asg (pe_tup (pa_cons (pe_df C_Ldraw hr (pa_cons (pv 0) (pa_cons pe_int pa_nil))) (pa_cons (pe_callB (call_max2 rfl) (by rfl) T.max (by decide +kernel) (pa_cons pe_int (pa_cons (pe_op op_fdiv (pv 1) pe_int) pa_nil))) pa_nil))) (kgtup (n := 2) K rfl (pgs_cons (pg_name (i := 3) sc_Lr_lengths.nd rfl (Or.inl rfl)) (pgs_cons (pg_name (i := 4) sc_Lr_lengths.nd rfl (Or.inr rfl)) pgs_nil))))
    (pss_cons (ps_if (pt_cmpR op_eq (pv 3) pe_int (nomark _)) (pss_one (ps_ret (pe_lc (own := [("k", 6)]) (tt := tYes) rfl sc_Lr_lengths.nd (pi_range1 (by rfl) T.range (pa_cons (pv 2) pa_nil)) (blkOk_by (N := n_Lr_lengths) (sc := defScope s_Lr_lengths) (by decide +kernel)) (fun _ _ _ _ _ => (pg_name (i := 6) sc_Lr_lengths.nd rfl (Or.inl rfl))) (fun _ _ _ _ _ => pts_nil) (fun _ _ _ _ _ => (pe_op op_add pe_int (pe_df C_Ldraw hr (pa_cons (pv 0) (pa_cons (pv 4) pa_nil)))))))) pss_nil)
    (pss_cons (ps_if (pt_cmpR op_eq (pv 3) pe_int (nomark _)) (pss_one (ps_ret (pe_lc (own := [("k", 6)]) (tt := tYes) rfl sc_Lr_lengths.nd (pi_range1 (by rfl) T.range (pa_cons (pv 2) pa_nil)) (blkOk_by (N := n_Lr_lengths) (sc := defScope s_Lr_lengths) (by decide +kernel)) (fun _ _ _ _ _ => (pg_name (i := 6) sc_Lr_lengths.nd rfl (Or.inl rfl))) (fun _ _ _ _ _ => pts_nil) (fun _ _ _ _ _ => (pe_op op_add pe_int (pe_df C_Ldraw hr (pa_cons (pv 0) (pa_cons (pv 1) pa_nil)))))))) pss_nil)
    (pss_cons (ps_if (pt_cmpR op_eq (pv 3) pe_int (nomark _)) (pss_cons (ps_set (i := 5) sc_Lr_lengths.nd rfl (Or.inr rfl) (pe_op op_add pe_int (pe_df C_Ldraw hr (pa_cons (pv 0) (pa_cons (pv 1) pa_nil)))))
    (pss_one (ps_ret (pe_lc (own := [("k", 6)]) (tt := tYes) rfl sc_Lr_lengths.nd (pi_range1 (by rfl) T.range (pa_cons (pv 2) pa_nil)) (blkOk_by (N := n_Lr_lengths) (sc := defScope s_Lr_lengths) (by decide +kernel)) (fun _ _ _ _ _ => (pg_name (i := 6) sc_Lr_lengths.nd rfl (Or.inl rfl))) (fun _ _ _ _ _ => pts_nil) (fun _ _ _ _ _ => (pv 5)))))) pss_nil)
    (pss_cons (ps_if (pt_cmpR op_eq (pv 3) pe_int (nomark _)) (pss_one (ps_ret (pe_lc (own := [("k", 6)]) (tt := tYes) rfl sc_Lr_lengths.nd (pi_range1 (by rfl) T.range (pa_cons (pv 2) pa_nil)) (blkOk_by (N := n_Lr_lengths) (sc := defScope s_Lr_lengths) (by decide +kernel)) (fun _ _ _ _ _ => (pg_name (i := 6) sc_Lr_lengths.nd rfl (Or.inl rfl))) (fun _ _ _ _ _ => pts_nil) (fun _ _ _ _ _ => (pe_df C_Lpick hr (pa_cons (pv 0) (pa_cons (pe_lst (pa_cons (pv 1) (pa_cons pe_int (pa_cons (pe_op op_add pe_int (pe_df C_Ldraw hr (pa_cons (pv 0) (pa_cons (pv 4) pa_nil)))) pa_nil)))) pa_nil))))))) pss_nil)
    (pss_cons (ps_if (pt_cmpR op_eq (pv 3) pe_int (nomark _)) (pss_one (ps_ret (pe_lc (own := [("k", 6)]) (tt := tYes) rfl sc_Lr_lengths.nd (pi_range1 (by rfl) T.range (pa_cons (pv 2) pa_nil)) (blkOk_by (N := n_Lr_lengths) (sc := defScope s_Lr_lengths) (by decide +kernel)) (fun _ _ _ _ _ => (pg_name (i := 6) sc_Lr_lengths.nd rfl (Or.inl rfl))) (fun _ _ _ _ _ => pts_nil) (fun _ _ _ _ _ => (pe_op op_sub (pv 1) (pe_df C_Ldraw hr (pa_cons (pv 0) (pa_cons (pv 4) pa_nil)))))))) pss_nil)
    (pss_cons (ps_set (i := 5) sc_Lr_lengths.nd rfl (Or.inr rfl) (pe_op op_add pe_int (pe_df C_Ldraw hr (pa_cons (pv 0) (pa_cons (pe_callB (call_max2 rfl) (by rfl) T.max (by decide +kernel) (pa_cons pe_int (pa_cons (pe_op op_fdiv (pv 1) pe_int) pa_nil))) pa_nil)))))
    (pss_one (ps_ret (pe_lc (own := [("k", 6)]) (tt := tYes) rfl sc_Lr_lengths.nd (pi_range1 (by rfl) T.range (pa_cons (pv 2) pa_nil)) (blkOk_by (N := n_Lr_lengths) (sc := defScope s_Lr_lengths) (by decide +kernel)) (fun _ _ _ _ _ => (pg_name (i := 6) sc_Lr_lengths.nd rfl (Or.inl rfl))) (fun _ _ _ _ _ => pts_nil) (fun _ _ _ _ _ => (pe_callB (call_min2 rfl) (by rfl) T.min (by decide +kernel) (pa_cons (pv 1) (pa_cons (pe_op op_add (pv 5) (pe_df C_Ldraw hr (pa_cons (pv 0) (pa_cons pe_int pa_nil)))) pa_nil)))))))))))))), ?_⟩
    walk_at "go"
    refine ⟨s, n, 6, rfl, hs, by omega, by omega, by omega, fun d H1 d0 d1 g1 hs1 => ?_⟩
    walk_at "st"
    intro p0 np0
    have g2 : Nx [s] H (upd H1 p0 (.tup [.int d, .int (if h / 4 > 1 then h / 4 else 1)])) := g1.newP np0
    have hs2 : Spr (upd H1 p0 (.tup [.int d, .int (if h / 4 > 1 then h / 4 else 1)])) s (n + 1) := hs1.nx (S := []) (.new np0) (by simp)
    have t1 : 1 ≤ (if h / 4 > 1 then h / 4 else 1) := by split <;> omega
    have t2 : (if h / 4 > 1 then h / 4 else 1) ≤ h := by split <;> omega
    generalize (if h / 4 > 1 then h / 4 else 1) = top at t1 t2 g2 hs2 ⊢
    walk_at "st"
    generalize upd H1 p0 (.tup [.int d, .int top]) = H2 at g2 hs2 ⊢
    refine ite_d (fun e0 => ?_) (fun e0 => ?_)
    · walk_at "st"
      refine ⟨_, rfl, by omega, by omega, fun D nD => ?_⟩
      refine lc_ints 2 (fun y => 1 ≤ y ∧ y ≤ h) (fun _ => rfl) nD hs2 (by omega) (fun i H3 Q' hi g3 hs3 q' => ?_) (fun ys H' hl hr e g3 hs3 => q D ys H' (Nx.fresh g2 nD) (by omega) hr e (g2.trans g3) (hs3.le (by omega)))
      walk_at "st"
      refine ⟨s, _, top, rfl, hs3, by omega, by omega, by omega, fun y H4 y0 y1 g4 hs4 => ?_⟩
      walk_at "st"
      exact q' _ _ (by omega) g4 (hs4.le (by omega))
    walk_at "st"
    refine ite_d (fun e1 => ?_) (fun e1 => ?_)
    · walk_at "st"
      refine ⟨_, rfl, by omega, by omega, fun D nD => ?_⟩
      refine lc_ints 2 (fun y => 1 ≤ y ∧ y ≤ h) (fun _ => rfl) nD hs2 (by omega) (fun i H3 Q' hi g3 hs3 q' => ?_) (fun ys H' hl hr e g3 hs3 => q D ys H' (Nx.fresh g2 nD) (by omega) hr e (g2.trans g3) (hs3.le (by omega)))
      walk_at "st"
      refine ⟨s, _, h, rfl, hs3, by omega, by omega, by omega, fun y H4 y0 y1 g4 hs4 => ?_⟩
      walk_at "st"
      exact q' _ _ (by omega) g4 (hs4.le (by omega))
    walk_at "st"
    refine ite_d (fun e2 => ?_) (fun e2 => ?_)
    · walk_at "st"
      refine ⟨s, _, h, rfl, hs2, by omega, by omega, by omega, fun y H4 y0 y1 g4 hs4 => ?_⟩
      walk_at "st"
      refine ⟨_, rfl, by omega, by omega, fun D nD => ?_⟩
      refine lc_ints 2 (fun y => 1 ≤ y ∧ y ≤ h) (fun _ => rfl) nD hs4 (by omega) (fun i H3 Q' hi g3 hs3 q' => ?_) (fun ys H' hl hr e g3 hs3 => q D ys H' (Nx.fresh (g2.trans g4) nD) (by omega) hr e ((g2.trans g4).trans g3) (hs3.le (by omega)))
      walk_at "st"
      exact q' _ _ (by omega) (.refl _ _) (hs3.le (by omega))
    walk_at "st"
    refine ite_d (fun e3 => ?_) (fun e3 => ?_)
    · walk_at "st"
      refine ⟨_, rfl, by omega, by omega, fun D nD => ?_⟩
      refine lc_ints 2 (fun y => 1 ≤ y ∧ y ≤ h) (fun _ => rfl) nD hs2 (by omega) (fun i H3 Q' hi g3 hs3 q' => ?_) (fun ys H' hl hr e g3 hs3 => q D ys H' (Nx.fresh g2 nD) (by omega) hr e (g2.trans g3) (hs3.le (by omega)))
      walk_at "st"
      refine ⟨s, _, top, rfl, hs3, by omega, by omega, by omega, fun y H4 y0 y1 g4 hs4 => ?_⟩
      walk_at "st"
      intro p1 np1
      have hps : p1 ≠ s := fun z => hs4.al (by rw [← z]; exact np1)
      refine ⟨s, p1, _, [.int h, .int 1, .int (1 + y)], rfl, hs4.nx (S := []) (.new np1) (by simp), by omega, .of upd_same, hps, by simp, by simp, fun x H5 hx g5 hs5 => ?_⟩
      have hx' : ∃ z, x = .int z ∧ 1 ≤ z ∧ z ≤ h := by
        simp only [List.mem_cons, List.not_mem_nil, or_false] at hx
        rcases hx with rfl | rfl | rfl
        · exact ⟨h, rfl, by omega⟩
        · exact ⟨1, rfl, by omega⟩
        · exact ⟨1 + y, rfl, by omega⟩
      obtain ⟨z, rfl, hz⟩ := hx'
      exact q' _ _ hz ((g4.newP np1).trans g5) (hs5.le (by omega))
    walk_at "st"
    refine ite_d (fun e4 => ?_) (fun e4 => ?_)
    · walk_at "st"
      refine ⟨_, rfl, by omega, by omega, fun D nD => ?_⟩
      refine lc_ints 2 (fun y => 1 ≤ y ∧ y ≤ h) (fun _ => rfl) nD hs2 (by omega) (fun i H3 Q' hi g3 hs3 q' => ?_) (fun ys H' hl hr e g3 hs3 => q D ys H' (Nx.fresh g2 nD) (by omega) hr e (g2.trans g3) (hs3.le (by omega)))
      walk_at "st"
      refine ⟨s, _, top, rfl, hs3, by omega, by omega, by omega, fun y H4 y0 y1 g4 hs4 => ?_⟩
      walk_at "st"
      exact q' _ _ (by omega) g4 (hs4.le (by omega))
    walk_at "st"
    have t3 : 0 < (if h / 2 > 1 then h / 2 else 1) := by split <;> omega
    have t4 : (if h / 2 > 1 then h / 2 else 1) ≤ h := by split <;> omega
    refine ⟨s, _, _, rfl, hs2, by omega, t3, by omega, fun y H4 y0 y1 g4 hs4 => ?_⟩
    walk_at "st"
    refine ⟨_, rfl, by omega, by omega, fun D nD => ?_⟩
    refine lc_ints 2 (fun y => 1 ≤ y ∧ y ≤ h) (fun _ => rfl) nD hs4 (by omega) (fun i H3 Q' hi g3 hs3 q' => ?_) (fun ys H' hl hr e g3 hs3 => q D ys H' (Nx.fresh (g2.trans g4) nD) (by omega) hr e ((g2.trans g4).trans g3) (hs3.le (by omega)))
    walk_at "st"
    refine ⟨s, _, 3, rfl, hs3, by omega, by omega, by omega, fun z H5 z0 z1 g5 hs5 => ?_⟩
    walk_at "st"
    exact q' _ _ (by split <;> omega) g5 (hs5.le (by omega))


theorem ok_Lr_drawn {P : Program} {w : World} {K : PySem.W.Frag} {mg : Str → Option Value} {base : Heap} (T : Bn mg)
    (C_Lpick : Df P w K mg base CX0 2 "_law_pick" ["spring", "some"] (sp_Lpick K))
    (C_Lr_lengths : Df P w K mg base CX0 3 "_law_r_lengths" ["spring", "hours", "many"] (sp_Lr_lengths K))
    (C_Lw_names : Df P w K mg base CX0 4 "_law_w_names" ["spring", "many"] (sp_Lw_names K))
    (C_Ldraw : Df P w K mg base CX0 1 "_law_draw" ["spring", "many"] (sp_Ldraw K)) 
    {f : Addr} {fd : FuncData} (F : FunD K "_law_r_drawn" "_law_r_drawn" (defArgs s_Lr_drawn) (defBody s_Lr_drawn) (defScope s_Lr_drawn) [] [] f fd) :
    FnOk P w K mg base CX0 5 f fd ["spring", "many"] (sp_Lr_drawn K) := by
  refine F.ok sc_Lr_drawn (fun vs H Q E h => ?_) (fun cdv A outer s H vs Q E hr h => ?_)
  · obtain ⟨s, n, m, S, rfl, _⟩ := h
    rfl
  · obtain ⟨s, n, m, S, rfl, hs, hn, hm, hsS, al, q⟩ := h
    refine ⟨_, PSs.nox (pss_cons (ps_set (i := 2) sc_Lr_drawn.nd rfl (Or.inl rfl) (pe_df C_Lpick hr (pa_cons (pv 0) (pa_cons (pe_lst (pa_cons pe_int (pa_cons pe_int (pa_cons pe_int (pa_cons pe_int (pa_cons pe_int (pa_cons pe_int (pa_cons pe_int (pa_cons pe_int (pa_cons pe_int (pa_cons pe_int (pa_cons pe_int pa_nil)))))))))))) pa_nil))))
    (pss_cons (ps_parG2 (i1 := 3) (i2 := 4) rfl sc_Lr_drawn.nd rfl rfl (by decide) (Or.inl rfl) (Or.inl rfl) (pa_cons (pe_df C_Lw_names hr (pa_cons (pv 0) (pa_cons (pv 1) pa_nil))) (pa_cons (pe_df C_Lr_lengths hr (pa_cons (pv 0) (pa_cons (pv 2) (pa_cons (pv 1) pa_nil)))) pa_nil)) (by rfl))
    (pss_cons (ps_parG2 (i1 := 5) (i2 := 6) rfl sc_Lr_drawn.nd rfl rfl (by decide) (Or.inl rfl) (Or.inl rfl) (pa_cons (pe_df C_Lpick hr (pa_cons (pv 0) (pa_cons (pe_lst (pa_cons pe_int (pa_cons pe_int (pa_cons (pe_callB (call_max2 rfl) (by rfl) T.max (by decide +kernel) (pa_cons pe_int (pa_cons (pe_op op_fdiv (pv 2) pe_int) pa_nil))) pa_nil)))) pa_nil))) (pa_cons pe_dnewK pa_nil)) (by rfl))
    (pss_cons (ps_for PassesOwn.never rfl (ki_enum K (by rfl) T.enumerate (pa_cons (pv 3) pa_nil)) (kgtup (n := 2) K rfl (pgs_cons (pg_name (i := 7) sc_Lr_drawn.nd rfl (Or.inl rfl)) (pgs_cons (pg_name (i := 8) sc_Lr_drawn.nd rfl (Or.inl rfl)) pgs_nil)))
      (pss_one (ps_dput (hu_of hr) (pv 6) (pv 8) (pe_tup (pa_cons (pe_op op_mul (pe_op op_fdiv (pe_df C_Ldraw hr (pa_cons (pv 0) (pa_cons (pv 2) pa_nil))) (pv 5)) (pv 5)) (pa_cons (pe_ix (kx_list K) (pv 4) (pv 7) (fun _ _ => rfl)) pa_nil))) rfl)))
    (pss_one (ps_ret (pe_tup (pa_cons (pv 2) (pa_cons (pv 6) pa_nil))))))))), ?_⟩
    walk_at "go"
    intro p1 np1
    have hp1 : p1 ≠ s := fun z => hs.al (by rw [← z]; exact np1)
    refine ⟨s, p1, n, [.int 1, .int 2, .int 3, .int 4, .int 5, .int 7, .int 8, .int 12, .int 24, .int 60, .int 1000], rfl, hs.nx (S := []) (.new np1) (by simp), by omega, .of upd_same, hp1, by simp, by simp, fun v H1 hv g1 hs1 => ?_⟩
    have hv' : ∃ h : Int, v = .int h ∧ 1 ≤ h ∧ h ≤ 1000 := by
      simp only [List.mem_cons, List.not_mem_nil, or_false] at hv
      rcases hv with rfl | rfl | rfl | rfl | rfl | rfl | rfl | rfl | rfl | rfl | rfl <;> exact ⟨_, rfl, by decide, by decide⟩
    obtain ⟨h, rfl, h1, h2⟩ := hv'
    have g1' : Nx [s] H H1 := (Nx.new np1).trans g1
    walk_at "st"
    refine ⟨s, _, m, rfl, hs1, by omega, by omega, fun p xs H2 np hl okx nd ep g2 hs2 => ?_⟩
    have hps : p ≠ s := fun z => hs1.al (by rw [← z]; exact np)
    walk_at "st"
    refine ⟨s, _, h, m, rfl, hs2, by omega, h1, h2, by omega, fun p2 ys H3 np2 hl2 oky ep2 g3 hs3 => ?_⟩
    have hp2s : p2 ≠ s := fun z => hs2.al (by rw [← z]; exact np2)
    have ep3 := g3.kp p _ (by simpa using hps) ep
    walk_at "st"
    intro p4 np4
    have hp4 : p4 ≠ s := fun z => hs3.al (by rw [← z]; exact np4)
    refine ⟨s, p4, _, [.int 1, .int 1, .int (if h / 3 > 1 then h / 3 else 1)], rfl, hs3.nx (S := []) (.new np4) (by simp), by omega, .of upd_same, hp4, by simp, by simp, fun v H4 hv g4 hs4 => ?_⟩
    have hv' : ∃ t : Int, v = .int t ∧ 1 ≤ t ∧ t ≤ h := by
      simp only [List.mem_cons, List.not_mem_nil, or_false] at hv
      rcases hv with rfl | rfl | rfl
      · exact ⟨_, rfl, by decide, by omega⟩
      · exact ⟨_, rfl, by decide, by omega⟩
      · exact ⟨_, rfl, by split <;> omega, by split <;> omega⟩
    obtain ⟨t, rfl, t1, t2⟩ := hv'
    have g4' : Nx [s] H3 H4 := (Nx.new np4).trans g4
    have ep4 := g4'.kp p _ (by simpa using hps) ep3
    have ep24 := g4'.kp p2 _ (by simpa using hp2s) ep2
    have gA : Nx [s] H H4 := g1'.trans (g2.trans (g3.trans g4'))
    walk_at "st"
    intro fd nf
    have hfs : fd ≠ s := fun z => hs4.al (by rw [← z]; exact nf)
    have hfp : p ≠ fd := ne_of_none ep4 nf
    have hfp2 : p2 ≠ fd := ne_of_none ep24 nf
    have nfH : H fd = none := gA.fresh nf
    have hfS : fd ∉ S := al.ne nfH
    walk_at "st"
    refine ⟨p, _, rfl, .of (by rw [upd_ne hfp]; exact ep4), ?_⟩
    refine for_runs (runs_enum (xs := xs.map V.str)) (fun i σ H' => ∃ (A : Arcs) (kvs : List (Key × V)) (y7 y8 : Option V), σ = [some (V.ref s), some (.int m), some (.int h), some (.ref p), some (.ref p2), some (.int t), some (.ref fd), y7, y8] ∧
      A.map (·.1) = xs.take i ∧ (∀ a ∈ A, 0 ≤ a.2.1 ∧ a.2.1 < h) ∧ (∀ a ∈ A, 1 ≤ a.2.2 ∧ a.2.2 ≤ h) ∧ H' fd = some (.dK kvs) ∧ ImKv (fd :: S) H' kvs (kvsD A) ∧ H' p = some (.lst (xs.map V.str)) ∧ H' p2 = some (.lst (ys.map V.int)) ∧ Nx [fd, s] H4 H' ∧ Spr H' s (n + m * 14 + 4 + i)) ?_ ?_ ?_ ?_
    · exact ⟨[], [], _, _, rfl, rfl, by simp, by simp, upd_same, .nil, by rw [upd_ne hfp]; exact ep4, by rw [upd_ne hfp2]; exact ep24, .put (by simp), (hs4.nx (S := [fd]) (.put (by simp)) (by simpa using hfs.symm)).le (by omega)⟩
    · rintro i σ H' ⟨A, kvs, y7, y8, _, _, _, _, _, _, e, _⟩
      exact .of e
    · rintro i σ H5 _ _ hi ⟨A, kvs, y7, y8, rfl, hA, hst, hln, ef, hI, e1, e2, g5, hs5⟩ ⟨T1, x1, rfl, nT, rfl, ex⟩
      rw [List.length_map] at hi
      have ex1 : x1 = .str xs[i] := by
        rw [List.getElem?_map, List.getElem?_eq_getElem hi] at ex
        exact (Option.some.inj ex).symm
      subst ex1
      have hT1 : T1 ≠ s := fun z => hs5.al (by rw [← z]; exact nT)
      have g6 : Nx [fd, s] H5 (upd H5 T1 (.tup [.int i, .str xs[i]])) := .new nT
      have hs6 := hs5.nx (S := []) (Nx.new (o := .tup [.int i, .str xs[i]]) nT) (by simp)
      have ef6 : (upd H5 T1 (.tup [.int i, .str xs[i]])) fd = some (.dK kvs) := by rw [upd_ne (ne_of_none ef nT)]; exact ef
      walk_at "st"
      generalize upd H5 T1 (.tup [.int i, .str xs[i]]) = H6 at g6 hs6 ef6 ⊢
      refine ⟨s, _, h, rfl, hs6, by omega, h1, by omega, fun d H7 d0 d1 g7 hs7 => ?_⟩
      obtain ⟨b0, b1, b2, b3⟩ := step_mul d0 t1
      have g7' : Nx [fd, s] H4 H7 := g5.trans (g6.trans (g7.sing (by simp)))
      have g57 : Nx [fd, s] H5 H7 := g6.trans (g7.sing (by simp))
      walk_at "st"
      have hi2 : i < ys.length := by omega
      have e27 := g57.kp p2 _ (by simp [hfp2, hp2s]) e2
      have e17 := g57.kp p _ (by simp [hfp, hps]) e1
      have ef7 : H7 fd = some (.dK kvs) := g7.kp fd _ (by simpa using hfs) ef6
      refine s_ixl (.of e27) (atI_at (j := i) (v := .int ys[i]) (by rw [List.getElem?_map, List.getElem?_eq_getElem hi2]; rfl) rfl) ?_
      walk_at "st"
      intro T2 nT2
      have hT2f : fd ≠ T2 := ne_of_none ef7 nT2
      have hT2s : T2 ≠ s := fun z => hs7.al (by rw [← z]; exact nT2)
      have hlen : kvs.length = i := by
        have := hI.length
        have h2 := congrArg List.length hA
        rw [List.length_map, List.length_take] at h2
        rw [this]
        unfold kvsD
        rw [List.length_map]; omega
      have hnew : (Sum.inr xs[i] : Key) ∉ kvs.map (·.1) := by
        rw [kvs_keys hI, hA]
        intro z
        obtain ⟨w, hw, ew⟩ := List.mem_map.mp z
        have e' : w = xs[i] := by injection ew
        subst e'
        obtain ⟨j, hj, ej⟩ := List.mem_take_iff_getElem.mp hw
        have := (List.getElem_inj nd).mp ej
        omega
      have ef8 : (upd H7 T2 (.tup [.int (d / t * t), .int ys[i]])) fd = some (.dK kvs) := by rw [upd_ne hT2f]; exact ef7
      walk_at "st"
      refine ⟨fd, _, rfl, .k (k := .inr xs[i]) ef8 (Nat.lt_of_lt_of_le (show kvs.length < 100 by omega) (by decide)), ?_⟩
      rw [putK_new hnew]
      have al7 : Al (fd :: S) H7 := by
        intro z hz
        rcases List.mem_cons.mp hz with e | hz
        · rw [e, ef7]; simp
        · exact ((gA.sing hsS).of0' al) hz |> fun h => g7'.th z h
      have g8 : Nx (fd :: S) H7 (upd (upd H7 T2 (.tup [.int (d / t * t), .int ys[i]])) fd (.dK (kvs ++ [(.inr xs[i], .ref T2)]))) := (Nx.new nT2).putP (by simp)
      have hI8 := (hI.nx (g57.mono (by intro z hz; simp at hz; rcases hz with rfl | rfl <;> simp [hsS]))).nx g8
      refine ⟨A ++ [(xs[i], d / t * t, ys[i])], _, _, _, rfl, ?_, ?_, ?_, upd_same, ?_, ?_, ?_, ?_, ?_⟩
      · rw [List.map_append, hA]; exact (List.take_append_getElem hi)
      · intro a ha
        rcases List.mem_append.mp ha with ha | ha
        · exact hst a ha
        · rw [List.mem_singleton.mp ha]; exact ⟨b0, by show d / t * t < h; omega⟩
      · intro a ha
        rcases List.mem_append.mp ha with ha | ha
        · exact hln a ha
        · rw [List.mem_singleton.mp ha]; exact oky _ (List.getElem_mem hi2)
      · unfold kvsD
        rw [List.map_append]
        refine ImKv.snoc (k := .inr xs[i]) hI8 (Im.pair (al7.ne nT2) ?_)
        rw [upd_ne (Ne.symm hT2f), upd_same]
      · rw [upd_ne hfp, upd_ne (ne_of_none e17 nT2)]; exact e17
      · rw [upd_ne hfp2, upd_ne (ne_of_none e27 nT2)]; exact e27
      · exact g7'.trans ((Nx.new nT2).putP (by simp))
      · exact ((hs7.nx (S := []) (.new nT2) (by simp)).nx (S := [fd]) (.put (by simp)) (by simpa using hfs.symm)).le (by omega)
    · rintro σ H5 ⟨A, kvs, y7, y8, rfl, hA, hst, hln, ef, hI, e1, e2, g5, hs5⟩
      rw [List.length_map, List.take_length] at hA
      walk_at "st"
      intro r nr
      have hH5 : H5 r = none := nr
      have g9 : Nx [s] H H5 := ((gA.sing (S := [fd, s]) (by simp)).trans g5).drop nfH
      have ok : ArcsOk h A := ⟨fun a ha => okx _ (by rw [← hA]; exact List.mem_map.mpr ⟨a, ha, rfl⟩), by rw [hA]; exact nd, hst, hln⟩
      have im5 : Im S H5 (.ref fd) (arcsD A) := .dct hfS (.inl ef) (by rw [kvs_keys hI]; exact inr_nodup ok.nd) hI.tail
      refine q r fd h A _ (g9.fresh nr) upd_same h1 h2 nfH (im5.nx (.new nr)) ok ?_ (g9.newP nr) ((hs5.nx (S := []) (.new nr) (by simp)).le ?_)
      · have := congrArg List.length hA
        rw [List.length_map] at this
        omega
      · rw [List.length_map]; omega

theorem leaf_eq {H : Hp} {v w : V} {d : PyData} (hv : Im [] H v d) (hw : Im [] H w d) (h1 : isDictD d = false) (h2 : isListD d = false) (h3 : isTupD d = false) : v = w := by
  cases hv <;> cases hw <;> first | (cases h1; done) | (cases h2; done) | (cases h3; done) | rfl
theorem ok_Lsame {P : Program} {w : World} {K : PySem.W.Frag} {mg : Str → Option Value} {base : Heap} (T : Bn mg)
    {j n : Nat} (hj : 0 ≤ j) (C_Lsame : Df P w K mg base CX0 j "_law_same" ["found", "due"] (sp_LsameN K n)) 
    {f : Addr} {fd : FuncData} (F : FunD K "_law_same" "_law_same" (defArgs s_Lsame) (defBody s_Lsame) (defScope s_Lsame) [] [] f fd) :
    FnOk P w K mg base CX0 (j + 1) f fd ["found", "due"] (sp_LsameN K (n + 1)) := by
  refine F.ok sc_Lsame (fun vs H Q E h => ?_) (fun cdv A outer s H vs Q E hr h => ?_)
  · obtain ⟨v, w, d, rfl, _⟩ := h
    rfl
  · obtain ⟨v, w', d, rfl, hv, hw, hd, hsm, q⟩ := h
    refine ⟨_, PSs.nox (pss_cons (ps_if (pt_val (pe_callB kisD (by rfl) T.isinstance (by decide +kernel) (pa_cons (pv 1) (pa_cons (pe_tyn "dict" T.dict) pa_nil)))) (pss_one (ps_ret (pe_and (pe_callB kisD (by rfl) T.isinstance (by decide +kernel) (pa_cons (pv 0) (pa_cons (pe_tyn "dict" T.dict) pa_nil))) (pe_one (pe_df C_Lsame hr (pa_cons (pe_litems rfl (pv 0) (by rfl) T.list) (pa_cons (pe_litems rfl (pv 1) (by rfl) T.list) pa_nil))))))) pss_nil)
    (pss_cons (ps_if (pt_val (pe_callB kisDT (by rfl) T.isinstance (by decide +kernel) (pa_cons (pv 1) (pa_cons (pe_tup (pa_cons (pe_tyn "list" T.list) (pa_cons (pe_tyn "tuple" T.tuple) pa_nil))) pa_nil)))) (pss_cons (ps_if (PW.pt (pw_or (pt_cmpR op_ne (pe_callB kisD (by rfl) T.isinstance (by decide +kernel) (pa_cons (pv 0) (pa_cons (pe_tyn "list" T.list) pa_nil))) (pe_callB kisD (by rfl) T.isinstance (by decide +kernel) (pa_cons (pv 1) (pa_cons (pe_tyn "list" T.list) pa_nil))) (nomark _)) (pw_or1 (pt_cmpR op_ne (pe_callB kisD (by rfl) T.isinstance (by decide +kernel) (pa_cons (pv 0) (pa_cons (pe_tyn "tuple" T.tuple) pa_nil))) (pe_callB kisD (by rfl) T.isinstance (by decide +kernel) (pa_cons (pv 1) (pa_cons (pe_tyn "tuple" T.tuple) pa_nil))) (nomark _))))) (pss_one (ps_ret pe_bl)) pss_nil)
    (pss_one (ps_ret (pe_and (pe_cmpR op_eq (pe_callB (klen K) (by rfl) T.len (by decide +kernel) (pa_cons (pv 0) pa_nil)) (pe_callB (klen K) (by rfl) T.len (by decide +kernel) (pa_cons (pv 1) pa_nil)) (nomark _)) (pe_one (pe_callB (kall K) (by rfl) T.all (by decide +kernel) (pa_cons (pe_lc (own := [("one", 3), ("other", 4)]) (tt := tYes) rfl sc_Lsame.nd (ki_zipA K (by rfl) T.zip (pa_cons (pv 0) (pa_cons (pv 1) pa_nil))) (blkOk_by (N := n_Lsame) (sc := defScope s_Lsame) (by decide +kernel)) (fun _ _ _ _ _ => (kgtup (n := 2) K rfl (pgs_cons (pg_name (i := 3) sc_Lsame.nd rfl (Or.inl rfl)) (pgs_cons (pg_name (i := 4) sc_Lsame.nd rfl (Or.inl rfl)) pgs_nil)))) (fun _ _ _ _ _ => pts_nil) (fun _ _ _ _ _ => (pe_df C_Lsame hr (pa_cons (pv 3) (pa_cons (pv 4) pa_nil))))) pa_nil))))))) pss_nil)
    (pss_cons (ps_set (i := 2) sc_Lsame.nd rfl (Or.inl rfl) (pe_and (pe_cmpR op_eq (pe_callB kisD (by rfl) T.isinstance (by decide +kernel) (pa_cons (pv 0) (pa_cons (pe_tyn "bool" T.bool) pa_nil))) (pe_callB kisD (by rfl) T.isinstance (by decide +kernel) (pa_cons (pv 1) (pa_cons (pe_tyn "bool" T.bool) pa_nil))) (nomark _)) (pe_one (pe_cmpR op_eq (pe_callB kisD (by rfl) T.isinstance (by decide +kernel) (pa_cons (pv 0) (pa_cons (pe_tyn "int" T.int) pa_nil))) (pe_callB kisD (by rfl) T.isinstance (by decide +kernel) (pa_cons (pv 1) (pa_cons (pe_tyn "int" T.int) pa_nil))) (nomark _)))))
    (pss_cons (ps_if (PW.pt (pw_or (pt_val (pe_callB kisDT (by rfl) T.isinstance (by decide +kernel) (pa_cons (pv 0) (pa_cons (pe_tup (pa_cons (pe_tyn "dict" T.dict) (pa_cons (pe_tyn "list" T.list) (pa_cons (pe_tyn "tuple" T.tuple) pa_nil)))) pa_nil)))) (pw_or (pt_not (kt_truth K (pv 2) (by intro _; rfl))) (pw_or1 (pt_cmpR op_ne (pe_callB kisD (by rfl) T.isinstance (by decide +kernel) (pa_cons (pv 0) (pa_cons (pe_tyn "str" T.str) pa_nil))) (pe_callB kisD (by rfl) T.isinstance (by decide +kernel) (pa_cons (pv 1) (pa_cons (pe_tyn "str" T.str) pa_nil))) (nomark _)))))) (pss_one (ps_ret pe_bl)) pss_nil)
    (pss_one (ps_ret (pe_ifExp (pt_cmpR op_isN (pv 1) pe_non (nomark _)) (pe_cmpR op_isN (pv 0) pe_non (nomark _)) (pe_cmpR op_eq (pv 0) (pv 1) (nomark _))))))))), ?_⟩
    walk_at "go"
    refine ite_b (fun hD => ?_) (fun hD => ?_)
    · -- dicts
      walk_at "st"
      rw [hD]
      refine iteT ?_
      walk_at "st"
      cases d with
      | dict ds =>
        cases hv with
        | @dct a kvs _ na ra nda ia =>
        cases hw with
        | @dct b kvs2 _ nb rb ndb ib =>
        refine ⟨a, kvs, rfl, ra, fun H1 l1 as1 g1 n1 na1 nl1 e1 p1 => ?_⟩
        walk_at "st"
        have g1' : Nx [] H H1 := .ofSame g1
        have rb1 : Rd H1 b (.dK kvs2) := g1'.rx b _ (by simp) .d rb
        refine ⟨b, kvs2, rfl, rb1, fun H2 l2 as2 g2 n2 na2 nl2 e2 p2 => ?_⟩
        walk_at "st"
        have g2' : Nx [] H1 H2 := .ofSame g2
        have j1 : Im [] H2 (.ref l1) (itemsD ds) := .lst (by simp) (.inl (g2 _ _ e1)) ((ImAll.items (T := []) g1 (by simp) ia p1 (by simp)).nx g2')
        have j2 : Im [] H2 (.ref l2) (itemsD ds) := .lst (by simp) (.inl e2) (ImAll.items (T := []) g2 (by simp) (ib.nx g1') p2 (by simp))
        have hdi : dep (itemsD ds) < n := by
          have := dep_items ds
          rw [dep] at hd
          unfold itemsD
          rw [dep]
          omega
        have hsi : sm (itemsD ds) = true := by
          rw [sm, Bool.and_eq_true] at hsm
          unfold itemsD
          rw [sm, sm_items ds hsm.2, List.length_map, hsm.1]
          rfl
        exact ⟨_, _, _, rfl, j1, j2, hdi, hsi, fun H3 g3 => q H3 (g1'.trans (g2'.trans g3))⟩
      | _ => cases hD
    · walk_at "st"
      intro t1 nt1
      have hw1 := hw.nx (S := []) (.new (o := .tup [.ty "list", .ty "tuple"]) nt1)
      have hv1 := hv.nx (S := []) (.new (o := .tup [.ty "list", .ty "tuple"]) nt1)
      walk_at "st"
      refine s_isLT hw ?_ nt1
      have gt1 : Nx [] H (upd H t1 (.tup [.ty "list", .ty "tuple"])) := .new nt1
      generalize upd H t1 (.tup [.ty "list", .ty "tuple"]) = H1 at hw1 hv1 gt1 ⊢
      walk_at "st"
      refine ite_b (fun hL => ?_) (fun hL => ?_)
      · walk_at "st"
        cases d with
        | list ds =>
          cases hv1 with
          | @lst a xs _ na ra ia =>
          cases hw1 with
          | @lst b ys _ nb rb ib =>
          refine ⟨_, _, rfl, .inl (len_l (.inl ra)), ?_⟩
          walk_at "st"
          refine ⟨_, _, rfl, .inl (len_l (.inl rb)), ?_⟩
          have hlen : xs.length = ys.length := by rw [ia.length, ib.length]
          rw [hlen]
          walk_at "st"
          refine ⟨a, b, xs, ys, rfl, .inl ⟨.inl ra, .inl rb, ?_⟩⟩
          intro D nD
          have hlen1000 : xs.length ≤ 1000 := by
            rw [sm, Bool.and_eq_true] at hsm
            rw [ia.length]
            exact of_decide_eq_true hsm.1
          have hdl : depAll ds + 1 < n + 1 := by rw [dep] at hd; exact hd
          have hsl : smAll ds = true := by rw [sm, Bool.and_eq_true] at hsm; exact hsm.2
          refine lc_runs (runs_zip (K := K) hlen) (fun i H' => H' D = some (.lst (List.replicate i (V.bl true))) ∧ Nx [] H1 H') ⟨upd_same, .new nD⟩ (fun i H' p => ⟨.inl (p.2.rx a _ (by simp) .l ra), .inl (p.2.rx b _ (by simp) .l rb)⟩) ?_ ?_
          · rintro i H2 _ _ hi ⟨eD, g2⟩ ⟨T1, x, y, rfl, nT, rfl, ex, ey⟩
            walk_at "st"
            refine ⟨rfl, ?_⟩
            walk_at "st"
            obtain ⟨dx, ed, jx⟩ := ia.at_ ex
            obtain ⟨dy, ed2, jy⟩ := ib.at_ ey
            rw [ed] at ed2
            cases ed2
            have hmem : dx ∈ ds := List.mem_of_getElem? ed
            have gT : Nx [] H1 (upd H2 T1 (.tup [x, y])) := g2.newP nT
            refine ⟨x, y, dx, rfl, jx.nx gT, jy.nx gT, Nat.lt_of_le_of_lt (depAll_mem hmem) (by omega), smAll_mem hsl hmem, fun H3 g3 => ?_⟩
            refine ⟨_, g3.kp D _ (by simp) (by rw [upd_ne (ne_of_none eD nT)]; exact eD), ?_, ?_, ?_⟩
            · rw [List.length_replicate]; exact Nat.lt_of_lt_of_le (show i < 10000 by omega) (by decide)
            · rw [upd_same, ← List.replicate_succ']
            · have ga : Nx [D] H1 (upd H3 D (.lst (List.replicate i (V.bl true) ++ [V.bl true]))) := ((gT.trans g3).of0).putP (by simp)
              exact ga.drop nD
          · rintro H2 ⟨eD, g2⟩
            walk_at "st"
            refine ⟨D, List.replicate xs.length true, rfl, .of (by rw [eD, List.map_replicate]), ?_⟩
            rw [show (List.replicate xs.length true).all id = true by rw [List.all_eq_true]; intro z hz; exact List.eq_of_mem_replicate hz]
            exact q H2 (gt1.trans g2)
        | tuple ds =>
          cases hv1 with
          | @tup a xs _ na ra ia =>
          cases hw1 with
          | @tup b ys _ nb rb ib =>
          refine ⟨_, _, rfl, .inl (.inr ⟨_, .inl ra, rfl⟩), ?_⟩
          walk_at "st"
          refine ⟨_, _, rfl, .inl (.inr ⟨_, .inl rb, rfl⟩), ?_⟩
          have hlen : xs.length = ys.length := by rw [ia.length, ib.length]
          rw [hlen]
          walk_at "st"
          refine ⟨a, b, xs, ys, rfl, .inr ⟨.inl ra, .inl rb, ?_⟩⟩
          intro D nD
          have hlen1000 : xs.length ≤ 1000 := by
            rw [sm, Bool.and_eq_true] at hsm
            rw [ia.length]
            exact of_decide_eq_true hsm.1
          have hdl : depAll ds + 1 < n + 1 := by rw [dep] at hd; exact hd
          have hsl : smAll ds = true := by rw [sm, Bool.and_eq_true] at hsm; exact hsm.2
          refine lc_runs (runs_zipT (K := K) hlen) (fun i H' => H' D = some (.lst (List.replicate i (V.bl true))) ∧ Nx [] H1 H') ⟨upd_same, .new nD⟩ (fun i H' p => ⟨.inl (p.2.rx a _ (by simp) .t ra), .inl (p.2.rx b _ (by simp) .t rb)⟩) ?_ ?_
          · rintro i H2 _ _ hi ⟨eD, g2⟩ ⟨T1, x, y, rfl, nT, rfl, ex, ey⟩
            walk_at "st"
            refine ⟨rfl, ?_⟩
            walk_at "st"
            obtain ⟨dx, ed, jx⟩ := ia.at_ ex
            obtain ⟨dy, ed2, jy⟩ := ib.at_ ey
            rw [ed] at ed2
            cases ed2
            have hmem : dx ∈ ds := List.mem_of_getElem? ed
            have gT : Nx [] H1 (upd H2 T1 (.tup [x, y])) := g2.newP nT
            refine ⟨x, y, dx, rfl, jx.nx gT, jy.nx gT, Nat.lt_of_le_of_lt (depAll_mem hmem) (by omega), smAll_mem hsl hmem, fun H3 g3 => ?_⟩
            refine ⟨_, g3.kp D _ (by simp) (by rw [upd_ne (ne_of_none eD nT)]; exact eD), ?_, ?_, ?_⟩
            · rw [List.length_replicate]; exact Nat.lt_of_lt_of_le (show i < 10000 by omega) (by decide)
            · rw [upd_same, ← List.replicate_succ']
            · have ga : Nx [D] H1 (upd H3 D (.lst (List.replicate i (V.bl true) ++ [V.bl true]))) := ((gT.trans g3).of0).putP (by simp)
              exact ga.drop nD
          · rintro H2 ⟨eD, g2⟩
            walk_at "st"
            refine ⟨D, List.replicate xs.length true, rfl, .of (by rw [eD, List.map_replicate]), ?_⟩
            rw [show (List.replicate xs.length true).all id = true by rw [List.all_eq_true]; intro z hz; exact List.eq_of_mem_replicate hz]
            exact q H2 (gt1.trans g2)
        | _ => cases hL
      · walk_at "st"
        intro t2 nt2
        walk_at "st"
        refine s_isDLT hv1 ?_ nt2
        have hw2 := hw1.nx (S := []) (.new (o := .tup [.ty "dict", .ty "list", .ty "tuple"]) nt2)
        have hv2 := hv1.nx (S := []) (.new (o := .tup [.ty "dict", .ty "list", .ty "tuple"]) nt2)
        have gt2 : Nx [] H1 (upd H1 t2 (.tup [.ty "dict", .ty "list", .ty "tuple"])) := .new nt2
        generalize upd H1 t2 (.tup [.ty "dict", .ty "list", .ty "tuple"]) = H2 at hw2 hv2 gt2 ⊢
        rw [hD, hL, Bool.or_false]
        walk_at "st"
        refine ⟨true, .inl (show true = _ by simp), ?_⟩
        walk_at "st"
        have hLT := Bool.or_eq_false_iff.mp hL
        have e := leaf_eq hv hw hD hLT.1 hLT.2
        subst e
        refine ⟨rfl, ?_⟩
        walk_at "st"
        refine ite_d (fun hn => ?_) (fun hn => ?_)
        · walk_at "st"
          refine ⟨rfl, ?_⟩
          rw [decide_eq_true hn]
          exact q H2 (gt1.trans gt2)
        · walk_at "st"
          have hs : scal v v = true := by
            cases hv with
            | non => exact absurd rfl hn
            | bl b => rfl
            | int i => rfl
            | str x => rfl
            | lst => cases hLT.1
            | tup => cases hLT.2
            | dct => cases hD
          refine s_eq hs ?_
          rw [decide_eq_true rfl]
          exact q H2 (gt1.trans gt2)


theorem ok_is_integer {P : Program} {w : World} {K : PySem.W.Frag} {mg : Str → Option Value} {base : Heap} (T : Bn mg) 
    {f : Addr} {fd : FuncData} (F : FunD K "is_integer" "is_integer" (defArgs s_is_integer) (defBody s_is_integer) (defScope s_is_integer) [] [] f fd) :
    FnOk P w K mg base CX0 1 f fd ["thing"] (sp_is_integer K) := by
  refine F.ok sc_is_integer (fun vs H Q E h => ?_) (fun cdv A outer s H vs Q E hr h => ?_)
  · obtain ⟨v, S, d, rfl, _⟩ := h
    rfl
  · obtain ⟨v, S, d, rfl, hv, q⟩ := h
    refine ⟨_, PSs.nox (pss_one (ps_ret (pe_and (pe_callB kisD (by rfl) T.isinstance (by decide +kernel) (pa_cons (pv 0) (pa_cons (pe_tyn "int" T.int) pa_nil))) (pe_one (pe_not (pe_callB kisD (by rfl) T.isinstance (by decide +kernel) (pa_cons (pv 0) (pa_cons (pe_tyn "bool" T.bool) pa_nil)))))))), ?_⟩
    walk_at "go"
    refine ite_b (fun h => ?_) (fun h => ?_)
    · walk_at "st"
      have e : (!isBoolD d) = isIntB d := by cases d <;> first | rfl | cases h
      rw [e]
      exact q
    · have e : isIntB d = false := by cases d <;> first | rfl | cases h
      rw [e] at q
      exact q


theorem ok_is_between {P : Program} {w : World} {K : PySem.W.Frag} {mg : Str → Option Value} {base : Heap} (T : Bn mg)
    (C_is_integer : Df P w K mg base CX0 1 "is_integer" ["thing"] (sp_is_integer K)) 
    {f : Addr} {fd : FuncData} (F : FunD K "is_between" "is_between" (defArgs s_is_between) (defBody s_is_between) (defScope s_is_between) [] [] f fd) :
    FnOk P w K mg base CX0 2 f fd ["thing", "low", "high"] (sp_is_between K) := by
  refine F.ok sc_is_between (fun vs H Q E h => ?_) (fun cdv A outer s H vs Q E hr h => ?_)
  · obtain ⟨v, lo, hi, S, d, rfl, _⟩ := h
    rfl
  · obtain ⟨v, lo, hi, S, d, rfl, hv, q⟩ := h
    refine ⟨_, PSs.nox (pss_one (ps_ret (pe_and (pe_df C_is_integer hr (pa_cons (pv 0) pa_nil)) (pe_one (pe_chain op_le op_le (pv 1) (pv 0) (pv 2)))))), ?_⟩
    walk_at "go"
    refine ⟨v, S, d, rfl, hv, ?_⟩
    walk_at "st"
    refine ite_b (fun h => ?_) (fun h => ?_)
    · walk_at "st"
      cases d with
      | int i =>
        cases hv
        walk_at "st"
        refine ite_b (fun h1 => ?_) (fun h1 => ?_)
        · walk_at "st"
          rw [betB, h1, Bool.true_and] at q
          exact q
        · rw [betB, h1, Bool.false_and] at q
          exact q
      | _ => cases h
    · have e : betB d lo hi = false := by cases d <;> first | rfl | cases h
      rw [e] at q
      exact q


theorem ok_is_list {P : Program} {w : World} {K : PySem.W.Frag} {mg : Str → Option Value} {base : Heap} (T : Bn mg) 
    {f : Addr} {fd : FuncData} (F : FunD K "is_list" "is_list" (defArgs s_is_list) (defBody s_is_list) (defScope s_is_list) [] [] f fd) :
    FnOk P w K mg base CX0 1 f fd ["thing"] (sp_is_list K) := by
  refine F.ok sc_is_list (fun vs H Q E h => ?_) (fun cdv A outer s H vs Q E hr h => ?_)
  · obtain ⟨v, S, d, rfl, _⟩ := h
    rfl
  · obtain ⟨v, S, d, rfl, hv, q⟩ := h
    refine ⟨_, PSs.nox (pss_one (ps_ret (pe_callB kisDT (by rfl) T.isinstance (by decide +kernel) (pa_cons (pv 0) (pa_cons (pe_tup (pa_cons (pe_tyn "list" T.list) (pa_cons (pe_tyn "tuple" T.tuple) pa_nil))) pa_nil))))), ?_⟩
    walk_at "go"
    intro t1 nt1
    walk_at "st"
    refine s_isLT hv ?_ nt1
    exact q _ (.new nt1)


theorem ok_is_name {P : Program} {w : World} {K : PySem.W.Frag} {mg : Str → Option Value} {base : Heap} (T : Bn mg)
    (T_LETTERS : ∃ t, mg "LETTERS" = some (.str "abcdefghijklmnopqrstuvwxyz" t))
    (T_SIGNS : ∃ t, mg "SIGNS" = some (.str "abcdefghijklmnopqrstuvwxyz0123456789" t)) 
    {f : Addr} {fd : FuncData} (F : FunD K "is_name" "is_name" (defArgs s_is_name) (defBody s_is_name) (defScope s_is_name) [] [] f fd) :
    FnOk P w K mg base CX0 1 f fd ["thing"] (sp_is_name K) := by
  refine F.ok sc_is_name (fun vs H Q E h => ?_) (fun cdv A outer s H vs Q E hr h => ?_)
  · obtain ⟨v, S, d, rfl, _⟩ := h
    rfl
  · obtain ⟨v, S, d, rfl, hv, hsm, q⟩ := h
    refine ⟨_, PSs.nox (pss_cons (ps_if (PW.pt (pw_or (pt_not (pt_val (pe_callB kisD (by rfl) T.isinstance (by decide +kernel) (pa_cons (pv 0) (pa_cons (pe_tyn "str" T.str) pa_nil))))) (pw_or1 (pt_not (pt_chain op_le op_le pe_int (pe_callB (klen K) (by rfl) T.len (by decide +kernel) (pa_cons (pv 0) pa_nil)) pe_int))))) (pss_one (ps_ret pe_bl)) pss_nil)
    (pss_cons (ps_if (pt_cmpR op_notIn_sign (pe_ix ix_str (pv 0) pe_int (fun _ _ => rfl)) (pe_gs T_LETTERS) (by rfl)) (pss_one (ps_ret pe_bl)) pss_nil)
    (pss_one (ps_ret (pe_callB (kall K) (by rfl) T.all (by decide +kernel) (pa_cons (pe_lc (own := [("sign", 1)]) (tt := tYes) rfl sc_is_name.nd (pi_str (pv 0)) (blkOk_by (N := n_is_name) (sc := defScope s_is_name) (by decide +kernel)) (fun _ _ _ _ _ => (pg_name (i := 1) sc_is_name.nd rfl (Or.inl rfl))) (fun _ _ _ _ _ => pts_nil) (fun _ _ _ _ _ => (pe_cmpR op_in_sign (pv 1) (pe_gs T_SIGNS) (by rfl)))) pa_nil)))))), ?_⟩
    walk_at "go"
    refine ite_b (fun h => ?_) (fun h => ?_)
    · walk_at "st"
      have e : nameB d = false := by cases d <;> first | rfl | cases h
      rw [e] at q
      exact q H (.refl _ _)
    · walk_at "st"
      cases d with
      | str x =>
        cases hv
        have hl : x.length ≤ 1000 := of_decide_eq_true hsm
        have hl2 : x.length ≤ sizeLine := Nat.le_trans hl (by decide)
        refine ⟨_, _, rfl, .inl ⟨hl2, rfl⟩, ?_⟩
        walk_at "st"
        have q' : ∀ H', Nx [] H H' → ∀ b, b = nmB x → Q (.bl b) H' := fun H' g b e => by rw [e]; exact q H' g
        refine ite_d (fun h1 => ?_) (fun h1 => ?_)
        · walk_at "st"
          refine ite_n (fun h2 => ?_) (fun h2 => ?_)
          · walk_at "st"
            refine q' H (.refl _ _) _ ?_
            unfold nmB
            rw [decide_eq_false (show ¬ x.length ≤ 8 by omega), Bool.and_false, Bool.false_and, Bool.false_and]
          · walk_at "st"
            have hx0 : 0 < x.cps.toList.length := by rw [← str_len]; omega
            have e0 : x.cps.toList[0]? = some x.cps.toList[0] := List.getElem?_eq_getElem hx0
            refine ⟨x, 0, x.cps.toList[0], rfl, rfl, hl2, atA (j := 0) e0 rfl, ?_⟩
            walk_at "st"
            refine ⟨_, letS, rfl, rfl, ?_⟩
            walk_at "st"
            rw [letS_codes]
            refine ite_n (fun h3 => ?_) (fun h3 => ?_)
            · walk_at "st"
              refine q' H (.refl _ _) _ ?_
              unfold nmB
              rw [e0, Option.any_some, decide_eq_false h3, Bool.and_false, Bool.false_and]
            · walk_at "st"
              refine ⟨x, rfl, ?_⟩
              intro D nD
              refine lc_runs runs_str (fun i H' => H' D = some (.lst ((x.cps.toList.take i).map fun c => V.bl (decide (c ∈ sigC)))) ∧ Nx [] H H') ⟨upd_same, .new nD⟩ (fun _ _ _ => trivial) ?_ ?_
              · rintro i Hx v H2 hi ⟨eD, g⟩ ⟨e, c, ec, rfl⟩
                subst e
                walk_at "st"
                refine ⟨rfl, ?_⟩
                walk_at "st"
                refine ⟨c, sigS, rfl, rfl, ?_⟩
                have hi2 : i < 1000 := by have : x.cps.size = x.length := rfl; omega
                refine ⟨_, eD, ?_, ?_, ?_⟩
                · rw [List.length_map, List.length_take]; exact Nat.lt_of_le_of_lt (Nat.min_le_left _ _) (Nat.lt_trans hi2 (by decide))
                · rw [upd_same, sigS_codes, List.take_add_one, Array.getElem?_toList, ec, List.map_append]; rfl
                · exact (g.of0.putP (by simp) : Nx [D] H _).drop nD
              · rintro H2 ⟨eD, g⟩
                walk_at "st"
                refine ⟨D, x.cps.toList.map fun c => decide (c ∈ sigC), rfl, .of (by rw [eD, List.take_of_length_le (by simp), List.map_map]; rfl), ?_⟩
                refine q' H2 g _ ?_
                unfold nmB
                rw [e0, Option.any_some, decide_eq_true h3, decide_eq_true (show 1 ≤ x.length by omega), decide_eq_true (show x.length ≤ 8 by omega), List.all_map]
                rfl
        · walk_at "st"
          refine q' H (.refl _ _) _ ?_
          unfold nmB
          rw [decide_eq_false (show ¬ 1 ≤ x.length by omega), Bool.false_and, Bool.false_and, Bool.false_and]
      | _ => cases h


theorem ok_check_hours {P : Program} {w : World} {K : PySem.W.Frag} {mg : Str → Option Value} {base : Heap} (T : Bn mg)
    (C_is_between : Df P w K mg base CX0 2 "is_between" ["thing", "low", "high"] (sp_is_between K))
    (T_MOST_HOURS : ∃ t, mg "MOST_HOURS" = some (.int 1000 t)) 
    {f : Addr} {fd : FuncData} (F : FunD K "check_hours" "check_hours" (defArgs s_check_hours) (defBody s_check_hours) (defScope s_check_hours) [] [] f fd) :
    FnOk P w K mg base CX0 3 f fd ["hours"] (sp_check_hours K) := by
  refine F.ok sc_check_hours (fun vs H Q E h => ?_) (fun cdv A outer s H vs Q E hr h => ?_)
  · obtain ⟨x, rfl, _⟩ := h
    rfl
  · obtain ⟨x, rfl, h1, h2, q⟩ := h
    refine ⟨_, PSs.nox (pss_one (ps_if (pt_not (pt_val (pe_df C_is_between hr (pa_cons (pv 0) (pa_cons pe_int (pa_cons (pe_gi T_MOST_HOURS) pa_nil)))))) (pss_one ps_never) pss_nil)), ?_⟩
    walk_at "go"
    refine ⟨_, 1, 1000, [], _, rfl, .int x, ?_⟩
    walk_at "st"
    rw [show betB (.int x) 1 1000 = true by rw [betB, decide_eq_true h1, decide_eq_true h2]; rfl]
    walk_at "st"
    exact q


theorem ok_are_arcs {P : Program} {w : World} {K : PySem.W.Frag} {mg : Str → Option Value} {base : Heap} (T : Bn mg)
    (C_is_list : Df P w K mg base CX0 1 "is_list" ["thing"] (sp_is_list K))
    (C_is_name : Df P w K mg base CX0 1 "is_name" ["thing"] (sp_is_name K))
    (C_is_between : Df P w K mg base CX0 2 "is_between" ["thing", "low", "high"] (sp_is_between K))
    (T_FORTY : ∃ t, mg "FORTY" = some (.int 40 t)) 
    {f : Addr} {fd : FuncData} (F : FunD K "are_arcs" "are_arcs" (defArgs s_are_arcs) (defBody s_are_arcs) (defScope s_are_arcs) [] [] f fd) :
    FnOk P w K mg base CX0 3 f fd ["hours", "thing"] (sp_are_arcs K) := by
  refine F.ok sc_are_arcs (fun vs H Q E h => ?_) (fun cdv A outer s H vs Q E hr h => ?_)
  · obtain ⟨x, v, S, d, rfl, _⟩ := h
    rfl
  · obtain ⟨x, v, S, d, rfl, hv, hsm, q⟩ := h
    refine ⟨_, PSs.nox (pss_cons (ps_if (PW.pt (pw_or (pt_not (pt_val (pe_callB kisD (by rfl) T.isinstance (by decide +kernel) (pa_cons (pv 1) (pa_cons (pe_tyn "dict" T.dict) pa_nil))))) (pw_or1 (pt_cmpR op_gt (pe_callB (klen K) (by rfl) T.len (by decide +kernel) (pa_cons (pv 1) pa_nil)) (pe_gi T_FORTY) (nomark _))))) (pss_one (ps_ret pe_bl)) pss_nil)
    (pss_cons (ps_lockU (ps_for PassesOwn.never rfl (pi_keys (pv 1)) (pg_name (i := 2) sc_are_arcs.nd rfl (Or.inl rfl))
      (pss_cons (ps_if (PW.pt (pw_or (pt_not (pt_val (pe_df C_is_name hr (pa_cons (pv 2) pa_nil)))) (pw_or (pt_not (pt_val (pe_df C_is_list hr (pa_cons (pe_dget (hu_of hr) (pv 1) (pv 2) (fun _ _ => rfl)) pa_nil)))) (pw_or1 (pt_cmpR op_ne (pe_callB (klen K) (by rfl) T.len (by decide +kernel) (pa_cons (pe_dget (hu_of hr) (pv 1) (pv 2) (fun _ _ => rfl)) pa_nil)) pe_int (nomark _)))))) (pss_one (ps_ret pe_bl)) pss_nil)
    (pss_cons (ps_asg (pe_dget (hu_of hr) (pv 1) (pv 2) (fun _ _ => rfl)) (kgseq (n := 2) K rfl (pgs_cons (pg_name (i := 3) sc_are_arcs.nd rfl (Or.inl rfl)) (pgs_cons (pg_name (i := 4) sc_are_arcs.nd rfl (Or.inl rfl)) pgs_nil))))
    (pss_one (ps_if (PW.pt (pw_or (pt_not (pt_val (pe_df C_is_between hr (pa_cons (pv 3) (pa_cons pe_int (pa_cons (pe_op op_sub (pv 0) pe_int) pa_nil)))))) (pw_or1 (pt_not (pt_val (pe_df C_is_between hr (pa_cons (pv 4) (pa_cons pe_int (pa_cons (pv 0) pa_nil))))))))) (pss_one (ps_ret pe_bl)) pss_nil))))))
    (pss_one (ps_ret pe_bl)))), ?_⟩
    walk_at "go"
    refine ite_b (fun h => ?_) (fun h => ?_)
    · walk_at "st"
      have e : arcsB x d = false := by cases d <;> first | rfl | cases h
      rw [e] at q
      exact q H (.refl _ _)
    · walk_at "st"
      cases d with
      | dict ds =>
        cases hv with
        | @dct a kvs _ na ra nda ia =>
        rw [sm, Bool.and_eq_true] at hsm
        have hl := ia.length
        refine ⟨_, _, rfl, .inr ⟨a, _, rfl, ra, rfl⟩, ?_⟩
        walk_at "st"
        refine ite_d (fun h1 => ?_) (fun h1 => ?_)
        · walk_at "st"
          have e : arcsB x (.dict ds) = false := by rw [arcsB, decide_eq_false (by omega), Bool.false_and]
          rw [e] at q
          exact q H (.refl _ _)
        · walk_at "st"
          refine lock_s ra (fun H1 od nx rt bk ct gx gb e1 hnx hrt => ?_)
          walk_at "st"
          refine ⟨a, od, rfl, .inl ⟨kvs, e1, ?_⟩⟩
          have gx' : ∀ {H' : Hp}, Nx [] H1 H' → Rx [] H H' := fun g => gx.trans g.rx
          have fin : ∀ (H' : Hp), H' a = some (.frz od (.dK kvs)) → Nx [] H1 H' → ∀ H2, Rx [] H' H2 → (∀ b, b ≠ a → H2 b = H' b) → H2 a = H a → Nx [] H H2 := fun H' e g H2 _ gb2 e2 => by
            refine ⟨fun c o _ h => ?_, fun c h => ?_⟩
            · by_cases hc : c = a
              · rw [hc, e2, ← hc]; exact h
              · rw [gb2 c hc]; exact g.kp c o (by simp) (by rw [gb c hc]; exact h)
            · by_cases hc : c = a
              · rw [hc, e2, ← hc]; exact h
              · rw [gb2 c hc]; exact g.th c (by rw [gb c hc]; exact h)
          refine for_runs runs_keys (fun i σ H' => ∃ u w, σ = [some (.int x), some (.ref a), u, w.1, w.2] ∧ Nx [] H1 H' ∧ (ds.take i).all (fun p => nameB p.1 && arcB x p.2) = true) ⟨_, (_, _), rfl, .refl _ _, rfl⟩ (fun i σ H' => fun ⟨_, _, _, g, _⟩ => g.kp a _ (by simp) e1) ?_ ?_
          · rintro i σ Hx y H2 hi ⟨u, w, rfl, g, hp⟩ ⟨e, k, v, ek, rfl⟩
            subst e
            walk_at "st"
            obtain ⟨d1, ed, jv⟩ := ia.get ek
            have hmem := List.mem_of_getElem? ed
            obtain ⟨sk, sd⟩ := smKv_mem hsm.2 hmem
            refine ⟨kV k, [], kD k, rfl, Im.key k, sk, fun H3 g3 => ?_⟩
            walk_at "st"
            have gB : Nx [] H1 H3 := g.trans g3
            have stop : ∀ H4, Nx [] H3 H4 → (nameB (kD k) && arcB x d1) = false → rt (.bl false) H4 := fun H4 g4 hb => by
              have gC := gB.trans g4
              have e4 : H4 a = some (.frz od (.dK kvs)) := gC.kp a _ (by simp) e1
              refine hrt _ _ e4 fun H5 gx5 gb5 e5 => ?_
              have ef : arcsB x (.dict ds) = false := by
                rw [arcsB]
                have : ds.all (fun p => nameB p.1 && arcB x p.2) = false := by
                  rw [List.all_eq_false]
                  exact ⟨_, hmem, by dsimp only; rw [hb]; decide⟩
                rw [this, Bool.and_false]
              rw [← ef]
              exact q H5 (fin H4 e4 gC H5 gx5 gb5 e5)
            have dg : ∀ {H4 : Hp}, Nx [] H3 H4 → DGet H4 a (kV k) (some v) := fun {H4} g4 => .inl ⟨kvs, k, .inr ⟨od, (gB.trans g4).kp a _ (by simp) e1⟩, rfl, (valV_of nda (List.mem_of_getElem? ek)).symm⟩
            refine ite_nb (fun hn => ?_) (fun hn => ?_)
            · walk_at "st"
              exact stop H3 (.refl _ _) (by rw [hn]; rfl)
            · walk_at "st"
              refine ⟨a, v, rfl, dg (.refl _ _), ?_⟩
              have jv3 : Im S H3 v d1 := jv.rx (gx.trans gB.rx).mono0 _
              walk_at "st"
              refine ⟨v, S, d1, rfl, jv3, fun H4 g4 => ?_⟩
              walk_at "st"
              refine ite_nb (fun hL => ?_) (fun hL => ?_)
              · walk_at "st"
                refine stop H4 g4 ?_
                have : arcB x d1 = false := by cases d1 <;> first | rfl | cases hL
                rw [this, Bool.and_false]
              · walk_at "st"
                refine ⟨a, v, rfl, dg g4, ?_⟩
                have jv4 : Im S H4 v d1 := jv3.nx g4.of0
                obtain ⟨b, xs, es, rfl, hq, nb, ib, he⟩ := jv4.seq (K := K) hL
                walk_at "st"
                refine ⟨_, _, rfl, .inl (len_seq hq), ?_⟩
                walk_at "st"
                have hle := ib.length
                refine ite_n (fun h2 => ?_) (fun h2 => ?_)
                · walk_at "st"
                  refine stop H4 g4 ?_
                  rw [arcB_of he, arcL_len (by omega), Bool.and_false]
                · walk_at "st"
                  refine ⟨a, _, rfl, dg g4, ?_⟩
                  cases ib with
                  | nil => simp at h2
                  | cons i1 t1 =>
                    cases t1 with
                    | nil => simp at h2
                    | cons i2 t2 =>
                      cases t2 with
                      | cons i3 t3 => simp at h2; omega
                      | nil =>
                        refine s_gseq hq rfl ?_
                        walk_at "st"
                        refine ⟨_, 0, x - 1, S, _, rfl, i1, ?_⟩
                        walk_at "st"
                        have ha : arcB x d1 = arcL x _ := arcB_of he
                        refine ite_nb (fun hb1 => ?_) (fun hb1 => ?_)
                        · walk_at "st"
                          refine stop H4 g4 ?_
                          rw [ha, arcL, hb1, Bool.false_and, Bool.and_false]
                        · walk_at "st"
                          refine ⟨_, 1, x, S, _, rfl, i2, ?_⟩
                          walk_at "st"
                          refine ite_nb (fun hb2 => ?_) (fun hb2 => ?_)
                          · walk_at "st"
                            refine stop H4 g4 ?_
                            rw [ha, arcL, hb2, Bool.and_false, Bool.and_false]
                          · walk_at "st"
                            refine ⟨_, (_, _), rfl, gB.trans g4, ?_⟩
                            rw [List.take_add_one, ed, List.all_append, hp]
                            show (true && ((nameB (kD k) && arcB x d1) && true)) = true
                            rw [hn, ha, arcL, hb1, hb2]
                            rfl
          · rintro σ H2 ⟨u, w, rfl, g, hp⟩
            rw [List.take_of_length_le (by omega)] at hp
            have e2 : H2 a = some (.frz od (.dK kvs)) := g.kp a _ (by simp) e1
            refine hnx _ _ e2 fun H5 gx5 gb5 e5 => ?_
            walk_at "st"
            have et : arcsB x (.dict ds) = true := by rw [arcsB, hp, decide_eq_true (show ds.length ≤ 40 by omega)]; rfl
            rw [← et]
            exact q H5 (fin H2 e2 g H5 gx5 gb5 e5)
      | _ => cases h


theorem ok_Ring_init {P : Program} {w : World} {K : PySem.W.Frag} {mg : Str → Option Value} {base : Heap} (T : Bn mg)
    {C : Addr} (RC : RingC K mg C)
    (C_check_hours : Df P w K mg base CX0 3 "check_hours" ["hours"] (sp_check_hours K))
    (C_are_arcs : Df P w K mg base CX0 3 "are_arcs" ["hours", "thing"] (sp_are_arcs K)) 
    {f : Addr} {fd : FuncData} (F : FunD K "__init__" "Ring.__init__" (defArgs s_Ring_init) (defBody s_Ring_init) (defScope s_Ring_init) [] [] f fd) :
    FnOk P w K mg base CX0 4 f fd ["self", "hours", "arcs"] (sp_Ring_init K C) := by
  refine F.ok sc_Ring_init (fun vs H Q E h => ?_) (fun cdv A outer s H vs Q E hr h => ?_)
  · obtain ⟨x, dx, h, v, S, A, d, rfl, _⟩ := h
    rfl
  · obtain ⟨x, dx, h, v, S, A, d, rfl, ex, hal, hv, lo, ok, hA, h1, h2, q⟩ := h
    refine ⟨_, PSs.nox (pss_cons (ps_expr (pe_df C_check_hours hr (pa_cons (pv 1) pa_nil)))
    (pss_cons (ps_if (pt_not (pt_val (pe_df C_are_arcs hr (pa_cons (pv 1) (pa_cons (pv 2) pa_nil))))) (pss_one ps_never) pss_nil)
    (pss_cons (kps_fld K (pv 0) (pv 1) rfl)
    (pss_one (kps_fld K (pv 0) (pe_dc (own := [("name", 3)]) (tt := tYes) rfl sc_Ring_init.nd (ki_list K (pe_callB (call_sortedD rfl) (by rfl) T.sorted (by decide +kernel) (pa_cons (pv 2) pa_nil))) (blkOk_by (N := n_Ring_init) (sc := defScope s_Ring_init) (by decide +kernel)) (fun _ _ _ _ _ => (pg_name (i := 3) sc_Ring_init.nd rfl (Or.inl rfl))) (fun _ _ _ _ _ => pts_nil) (fun _ _ _ _ _ => (pv 3)) (fun _ _ _ _ _ => (pe_tup (pa_cons (pe_ix (kx_seq K) (pe_dget (hu_of hr) (pv 2) (pv 3) (fun _ _ => rfl)) pe_int (fun _ _ => rfl)) (pa_cons (pe_ix (kx_seq K) (pe_dget (hu_of hr) (pv 2) (pv 3) (fun _ _ => rfl)) pe_int (fun _ _ => rfl)) pa_nil))))) rfl))))), ?_⟩
    walk_at "go"
    refine ⟨h, rfl, h1, h2, ?_⟩
    walk_at "st"
    have hv' := hv
    obtain ⟨B, es, pb, rfl, lk⟩ := lo_arcs lo
    refine ⟨h, v, _, _, rfl, hv, arcs_sm (by omega) ok hA lo, fun H1 g1 => ?_⟩
    rw [arcs_taken ok hA lo]
    walk_at "st"
    have ex1 : H1 x = some (.ins C dx []) := g1.kp x _ (by simp) ex
    refine ⟨x, C, dx, _, rfl, ex1, RC.cls, RC.nh, by decide, ?_⟩
    walk_at "st"
    have hal1 : Al (x :: S) H1 := hal.mono g1
    have hv1 : Im (x :: S) H1 v (.dict es) := hv.nx g1.of0
    have g2 : Nx [x] H1 (upd H1 x (.ins C dx (putF "own_hours" (.int h) []))) := .put (by simp)
    have ex2 : (upd H1 x (.ins C dx (putF "own_hours" (.int h) []))) x = some (.ins C dx (putF "own_hours" (.int h) [])) := upd_same
    have hv2 : Im (x :: S) (upd H1 x (.ins C dx (putF "own_hours" (.int h) []))) v (.dict es) := hv1.nx (g2.mono (by simp))
    have hal2 : Al (x :: S) (upd H1 x (.ins C dx (putF "own_hours" (.int h) []))) := hal1.mono g2
    generalize upd H1 x (.ins C dx (putF "own_hours" (.int h) [])) = H2 at g2 ex2 hv2 hal2 ⊢
    have oB := ok.perm pb
    have hBl : B.length ≤ 40 := by rw [pb.length_eq]; exact hA
    cases hv2 with
    | @dct a kvs _ na ra nda ia =>
    have hkeys : kvs.map (·.1) = (B.map (·.1)).map Sum.inr := by
      refine kD_map ?_
      have e1 := ia.keys
      rw [lk.keys] at e1
      rw [List.map_map, List.map_map]
      show (kvs.map fun kv => kD kv.1) = _
      rw [← e1]
      unfold kvsD
      rw [List.map_map]; rfl
    refine ⟨a, kvs, _, rfl, ra, hkeys, by rw [List.length_map]; omega, fun ys p hp hs np => ?_⟩
    have hpn : ys.Perm (A.map (·.1)) := hp.trans (pb.map _)
    have hyl : ys.length ≤ 40 := by rw [hp.length_eq, List.length_map]; exact hBl
    have hpx : p ≠ x := fun z => by rw [z, ex2] at np; cases np
    have g3 : Nx [] H2 (upd H2 p (.lst (ys.map V.str))) := .new np
    refine ⟨p, rfl, ⟨_, .of upd_same⟩, fun D nD => ?_⟩
    have hDp : p ≠ D := fun z => by rw [← z, upd_same] at nD; cases nD
    have nD2 : H2 D = none := g3.fresh nD
    have hDx : D ≠ x := fun z => by rw [z, ex2] at nD2; cases nD2
    have hal3 : Al (x :: S) (upd H2 p (.lst (ys.map V.str))) := hal2.mono g3
    have hyn : ys.Nodup := hp.nodup_iff.mpr oB.nd
    have nDS : D ∉ x :: S := hal2.ne nD2
    refine dc_runs (runs_list (K := K) (a := p) (xs := ys.map V.str)) (fun i H' => ∃ kv, H' D = some (.dK kv) ∧ ImKv (D :: x :: S) H' kv (kvsD (arcsBy A (ys.take i))) ∧ Nx [D] (upd H2 p (.lst (ys.map V.str))) H') ⟨[], upd_same, .nil, .put (by simp)⟩ (fun i H' => fun ⟨kv, eD, ik, g⟩ => .inl (g.rx p _ (by simpa using hDp) .l (.inl upd_same))) ?_ ?_
    · rintro i Hx y H4 hi ⟨kv, eD, ik, g4⟩ ⟨e, ey⟩
      subst e
      rw [List.length_map] at hi
      rw [List.getElem?_map, List.getElem?_eq_getElem hi] at ey
      injection ey with ey
      subst ey
      walk_at "st"
      refine ⟨rfl, ?_⟩
      walk_at "st"
      have hnB : ys[i] ∈ B.map (·.1) := hp.mem_iff.mp (List.getElem_mem hi)
      have hnA : ys[i] ∈ A.map (·.1) := hpn.mem_iff.mp (List.getElem_mem hi)
      have g5 : Nx [] H2 H4 := Nx.drop (g3.of0.trans g4) nD2
      have ia4 : ImKv (x :: S) H4 kvs es := ia.nx g5.of0
      have ra4 : Rd H4 a (.dK kvs) := (Nx.rx (S := x :: S) g5.of0) a _ na .d ra
      obtain ⟨u, du, eu, iu, hu⟩ := lo_get oB.nd lk ia4 nda hnB
      rw [arcOf_perm ok.nd pb hnA] at hu
      refine ⟨a, u, rfl, .inl ⟨kvs, .inr ys[i], ra4, rfl, eu.symm⟩, ?_⟩
      obtain ⟨b, rfl, nb, hq⟩ := iu.pairish (K := K) hu
      walk_at "st"
      refine s_ixq hq (atI_at (j := 0) rfl rfl) ?_
      walk_at "st"
      refine ⟨a, _, rfl, .inl ⟨kvs, .inr ys[i], ra4, rfl, eu.symm⟩, ?_⟩
      walk_at "st"
      refine s_ixq hq (atI_at (j := 1) rfl rfl) ?_
      walk_at "st"
      intro t nt
      have htD : D ≠ t := ne_of_none eD nt
      have hal4 : Al (D :: x :: S) H4 := (hal2.mono g5).cons eD
      refine ⟨kv, .inr ys[i], rfl, by rw [upd_ne htD]; exact eD, ?_, _, upd_same, ?_, ?_⟩
      · rw [ik.length, kvsD_len]
        unfold arcsBy
        rw [List.length_map, List.length_take]
        exact Nat.lt_of_lt_of_le (show min i ys.length < 10000 by omega) (by decide)
      · have hkn : (Sum.inr ys[i] : Key) ∉ kv.map (·.1) := by
          rw [kvs_keys ik, arcsBy_names]
          intro z
          obtain ⟨y, hy, e⟩ := List.mem_map.mp z
          injection e with e
          subst e
          exact take_new hyn hi hy
        rw [putK_new hkn, arcsBy_snoc hi]
        unfold kvsD
        rw [List.map_append]
        have gE : Nx (D :: x :: S) H4 (upd (upd H4 t (.tup [.int (arcOf A ys[i]).1, .int (arcOf A ys[i]).2])) D (.dK (kv ++ [(.inr ys[i], .ref t)]))) := (Nx.new nt).putP (by simp)
        refine (ik.nx gE).snoc ?_
        show Im _ _ _ (arcD ((arcOf A ys[i]).1, (arcOf A ys[i]).2))
        exact Im.pair (hal4.ne nt) (by rw [upd_ne htD.symm, upd_same])
      · exact g4.trans ((Nx.new nt).putP (by simp))
    · rintro H4 ⟨kv, eD, ik, g4⟩
      rw [List.length_map, List.take_of_length_le (Nat.le_refl _)] at ik
      walk_at "st"
      have g5 : Nx [] H2 H4 := Nx.drop (g3.of0.trans g4) nD2
      refine ⟨x, C, dx, _, rfl, g5.kp x _ (by simp) ex2, RC.cls, RC.na, by rw [putF]; exact (by decide : 1 < 1000), ?_⟩
      rw [putF2]
      have gF : Nx [x] H4 (upd H4 x (.ins C dx [("own_hours", .int h), ("own_arcs", .ref D)])) := .put (by simp)
      have e9 : ∀ {o : HO}, (upd H4 x o) D = some (.dK kv) := fun {o} => by rw [upd_ne hDx]; exact eD
      refine q ys D _ hpn hs (g1.of0.trans (g2.trans (g5.of0.trans gF))) upd_same ?_
      have ndk : (kv.map (·.1)).Nodup := by rw [kvs_keys ik, arcsBy_names]; exact inr_nodup hyn
      exact .dct nDS (.inl e9) ndk (ik.nx (gF.mono (by simp))).tail


theorem ok_Ring_len {P : Program} {w : World} {K : PySem.W.Frag} {mg : Str → Option Value} {base : Heap} (T : Bn mg)
    {C : Addr} (RC : RingC K mg C) 
    {f : Addr} {fd : FuncData} (F : FunD K "__len__" "Ring.__len__" (defArgs s_Ring_len) (defBody s_Ring_len) (defScope s_Ring_len) [] [] f fd) :
    FnOk P w K mg base CX0 1 f fd ["self"] (sp_Ring_len K C) := by
  refine F.ok sc_Ring_len (fun vs H Q E h => ?_) (fun cdv A outer s H vs Q E hr h => ?_)
  · obtain ⟨a, S, h, A, rfl, _⟩ := h
    rfl
  · obtain ⟨a, S, h, A, rfl, ⟨na, dx, d, e, i⟩, q⟩ := h
    refine ⟨_, PSs.nox (pss_one (ps_ret (pe_callB (klen K) (by rfl) T.len (by decide +kernel) (pa_cons (kfld K (pv 0) rfl) pa_nil)))), ?_⟩
    walk_at "go"
    refine ⟨a, C, dx, _, _, rfl, e, RC.cls, RC.na, lk_a, ?_⟩
    walk_at "st"
    cases i with
    | @dct _ kvs _ n r nd ia =>
      refine ⟨_, _, rfl, .inr ⟨d, kvs, rfl, r, rfl⟩, ?_⟩
      rw [ia.length, kvsD_len]
      exact q


theorem ok_Ring_contains {P : Program} {w : World} {K : PySem.W.Frag} {mg : Str → Option Value} {base : Heap} (T : Bn mg)
    {C : Addr} (RC : RingC K mg C) 
    {f : Addr} {fd : FuncData} (F : FunD K "__contains__" "Ring.__contains__" (defArgs s_Ring_contains) (defBody s_Ring_contains) (defScope s_Ring_contains) [] [] f fd) :
    FnOk P w K mg base CX0 1 f fd ["self", "name"] (sp_Ring_contains K C) := by
  refine F.ok sc_Ring_contains (fun vs H Q E h => ?_) (fun cdv A outer s H vs Q E hr h => ?_)
  · obtain ⟨a, S, S2, h, A, v, d, rfl, _⟩ := h
    rfl
  · obtain ⟨a, S, S2, h, A, v, d, rfl, ⟨na, dx, dd, e, i⟩, hv, q⟩ := h
    refine ⟨_, PSs.nox (pss_one (ps_ret (pe_and (pe_callB kisD (by rfl) T.isinstance (by decide +kernel) (pa_cons (pv 1) (pa_cons (pe_tyn "str" T.str) pa_nil))) (pe_one (pe_cmpR (op_din (hu_of hr)) (pv 1) (kfld K (pv 0) rfl) (by rfl)))))), ?_⟩
    walk_at "go"
    refine ite_b (fun hs => ?_) (fun hs => ?_)
    · walk_at "st"
      cases d with
      | str x =>
        cases hv
        refine ⟨a, C, dx, _, _, rfl, e, RC.cls, RC.na, lk_a, ?_⟩
        cases i with
        | @dct _ kvs _ n r nd ia =>
          refine ⟨dd, _, rfl, .inl ⟨kvs, .inr x, r, rfl, rfl⟩, ?_⟩
          rw [has_key ia]
          exact q
      | _ => cases hs
    · have e2 : hasB A d = false := by cases d <;> first | rfl | cases hs
      rw [e2] at q
      exact q


theorem ok_Ring_hours {P : Program} {w : World} {K : PySem.W.Frag} {mg : Str → Option Value} {base : Heap} (T : Bn mg)
    {C : Addr} (RC : RingC K mg C) 
    {f : Addr} {fd : FuncData} (F : FunD K "hours" "Ring.hours" (defArgs s_Ring_hours) (defBody s_Ring_hours) (defScope s_Ring_hours) [] [] f fd) :
    FnOk P w K mg base CX0 1 f fd ["self"] (sp_Ring_hours K C) := by
  refine F.ok sc_Ring_hours (fun vs H Q E h => ?_) (fun cdv A outer s H vs Q E hr h => ?_)
  · obtain ⟨a, S, h, A, rfl, _⟩ := h
    rfl
  · obtain ⟨a, S, h, A, rfl, ⟨na, dx, d, e, i⟩, q⟩ := h
    refine ⟨_, PSs.nox (pss_one (ps_ret (kfld K (pv 0) rfl))), ?_⟩
    walk_at "go"
    exact ⟨a, C, dx, _, _, rfl, e, RC.cls, RC.nh, lk_h, q⟩


theorem ok_Ring_names {P : Program} {w : World} {K : PySem.W.Frag} {mg : Str → Option Value} {base : Heap} (T : Bn mg)
    {C : Addr} (RC : RingC K mg C) 
    {f : Addr} {fd : FuncData} (F : FunD K "names" "Ring.names" (defArgs s_Ring_names) (defBody s_Ring_names) (defScope s_Ring_names) [] [] f fd) :
    FnOk P w K mg base CX0 1 f fd ["self"] (sp_Ring_names K C) := by
  refine F.ok sc_Ring_names (fun vs H Q E h => ?_) (fun cdv A outer s H vs Q E hr h => ?_)
  · obtain ⟨a, S, h, A, rfl, _⟩ := h
    rfl
  · obtain ⟨a, S, h, A, rfl, ⟨na, dx, d, e, i⟩, hA, q⟩ := h
    refine ⟨_, PSs.nox (pss_one (ps_ret (pe_callB (call_sortedD rfl) (by rfl) T.sorted (by decide +kernel) (pa_cons (kfld K (pv 0) rfl) pa_nil)))), ?_⟩
    walk_at "go"
    refine ⟨a, C, dx, _, _, rfl, e, RC.cls, RC.na, lk_a, ?_⟩
    walk_at "st"
    cases i with
    | @dct _ kvs _ n r nd ia =>
      exact ⟨d, kvs, _, rfl, r, kvs_keys ia, by rw [List.length_map]; omega, q⟩


theorem ok_Ring_arc {P : Program} {w : World} {K : PySem.W.Frag} {mg : Str → Option Value} {base : Heap} (T : Bn mg)
    {C : Addr} (RC : RingC K mg C)
    (C_Ring_contains : Mt P w K mg base C 1 "__contains__" ["self", "name"] (sp_Ring_contains K C)) 
    {f : Addr} {fd : FuncData} (F : FunD K "arc" "Ring.arc" (defArgs s_Ring_arc) (defBody s_Ring_arc) (defScope s_Ring_arc) [] [] f fd) :
    FnOk P w K mg base CX0 2 f fd ["self", "name"] (sp_Ring_arc K C) := by
  refine F.ok sc_Ring_arc (fun vs H Q E h => ?_) (fun cdv A outer s H vs Q E hr h => ?_)
  · obtain ⟨a, S, h, A, n, rfl, _⟩ := h
    rfl
  · obtain ⟨a, S, h, A, n, rfl, ⟨na, dx, d, e, i⟩, nd, hn, q⟩ := h
    refine ⟨_, PSs.nox (pss_cons (ps_if (pt_cmpR (op_ownNotIn C_Ring_contains hr) (pv 1) (pv 0) (by rfl)) (pss_one ps_never) pss_nil)
    (pss_one (ps_ret (pe_dget (hu_of hr) (kfld K (pv 0) rfl) (pv 1) (fun _ _ => rfl))))), ?_⟩
    walk_at "go"
    refine ⟨a, dx, _, rfl, e, a, S, S, h, A, _, _, rfl, ⟨na, dx, d, e, i⟩, .str n, _, rfl, ?_⟩
    rw [show hasB A (.str n) = true from decide_eq_true hn]
    walk_at "st"
    rw [show (true != true) = false from rfl]
    walk_at "st"
    refine ⟨a, C, dx, _, _, rfl, e, RC.cls, RC.na, lk_a, ?_⟩
    walk_at "st"
    cases i with
    | @dct _ kvs _ n r ndk ia =>
      obtain ⟨v, ev, iv⟩ := arcs_get nd ia hn
      exact ⟨d, v, rfl, .inl ⟨kvs, .inr _, r, rfl, ev.symm⟩, q v iv⟩


theorem ok_LsameW {P : Program} {w : World} {K : PySem.W.Frag} {mg : Str → Option Value} {base : Heap} (T : Bn mg)
    {f : Addr} {fd : FuncData} (F : FunD K "_law_same" "_law_same" (defArgs s_Lsame) (defBody s_Lsame) (defScope s_Lsame) [] [] f fd) :
    FnA (GH 1) P w K mg base f fd ["found", "due"] (sp_LsameW K) := by
  refine okA false F sc_Lsame (fun vs H Q h => ?_) (fun A gA => gA.depth) (fun z => by cases z) (fun cdv A outer s H vs Q gA h => ?_)
  · obtain ⟨v, d, rfl, _⟩ := h
    rfl
  · have hr := gA.deeper (envOfC "_law_same" (defScope s_Lsame) s.heap.objs.size f cdv)
    have hu : (A.deeper (envOfC "_law_same" (defScope s_Lsame) s.heap.objs.size f cdv)).units + 1 < cLine := by have := hr.un; omega
    obtain ⟨v, d, rfl, hv, hD, hL, hT, q⟩ := h
    refine ⟨_, (pss_cons (ps_if (pt_val (pe_callB kisD (by rfl) T.isinstance (by decide +kernel) (pa_cons (pv 1) (pa_cons (pe_tyn "dict" T.dict) pa_nil)))) (pss_one ps_never) pss_nil)
    (pss_cons (ps_if (pt_val (pe_callB kisDT (by rfl) T.isinstance (by decide +kernel) (pa_cons (pv 1) (pa_cons (pe_tup (pa_cons (pe_tyn "list" T.list) (pa_cons (pe_tyn "tuple" T.tuple) pa_nil))) pa_nil)))) (pss_cons ps_never
    (pss_one ps_never)) pss_nil)
    (pss_cons (ps_set (i := 2) sc_Lsame.nd rfl (Or.inl rfl) (pe_and (pe_cmpR op_eq (pe_callB kisD (by rfl) T.isinstance (by decide +kernel) (pa_cons (pv 0) (pa_cons (pe_tyn "bool" T.bool) pa_nil))) (pe_callB kisD (by rfl) T.isinstance (by decide +kernel) (pa_cons (pv 1) (pa_cons (pe_tyn "bool" T.bool) pa_nil))) (nomark _)) (pe_one (pe_cmpR op_eq (pe_callB kisD (by rfl) T.isinstance (by decide +kernel) (pa_cons (pv 0) (pa_cons (pe_tyn "int" T.int) pa_nil))) (pe_callB kisD (by rfl) T.isinstance (by decide +kernel) (pa_cons (pv 1) (pa_cons (pe_tyn "int" T.int) pa_nil))) (nomark _)))))
    (pss_cons (ps_if (PW.pt (pw_or (pt_val (pe_callB kisDT (by rfl) T.isinstance (by decide +kernel) (pa_cons (pv 0) (pa_cons (pe_tup (pa_cons (pe_tyn "dict" T.dict) (pa_cons (pe_tyn "list" T.list) (pa_cons (pe_tyn "tuple" T.tuple) pa_nil)))) pa_nil)))) (pw_or (pt_not (kt_truth K (pv 2) (by intro _; rfl))) (pw_or1 (pt_cmpR op_ne (pe_callB kisD (by rfl) T.isinstance (by decide +kernel) (pa_cons (pv 0) (pa_cons (pe_tyn "str" T.str) pa_nil))) (pe_callB kisD (by rfl) T.isinstance (by decide +kernel) (pa_cons (pv 1) (pa_cons (pe_tyn "str" T.str) pa_nil))) (nomark _)))))) (pss_one (ps_ret pe_bl)) pss_nil)
    (pss_one (ps_ret (pe_ifExp (pt_cmpR op_isN (pv 1) pe_non (nomark _)) (pe_cmpR op_isN (pv 0) pe_non (nomark _)) (pe_cmpR op_eq (pv 0) (pv 1) (nomark _))))))))), ?_⟩
    walk_at "go"
    rw [hD]
    walk_at "st"
    intro t1 nt1
    have gt1 : Nx [] H (upd H t1 (.tup [.ty "list", .ty "tuple"])) := .new nt1
    have hv1 := hv.nx gt1
    walk_at "st"
    refine s_isLT hv ?_ nt1
    generalize upd H t1 (.tup [.ty "list", .ty "tuple"]) = H1 at hv1 gt1 ⊢
    rw [hL, hT, Bool.or_false]
    walk_at "st"
    intro t2 nt2
    walk_at "st"
    refine s_isDLT hv1 ?_ nt2
    have hv2 := hv1.nx (S := []) (.new (o := .tup [.ty "dict", .ty "list", .ty "tuple"]) nt2)
    have gt2 : Nx [] H1 (upd H1 t2 (.tup [.ty "dict", .ty "list", .ty "tuple"])) := .new nt2
    generalize upd H1 t2 (.tup [.ty "dict", .ty "list", .ty "tuple"]) = H2 at hv2 gt2 ⊢
    rw [hD, hL, hT, Bool.or_false, Bool.or_false]
    walk_at "st"
    refine ⟨true, .inl (show true = _ by simp), ?_⟩
    walk_at "st"
    refine ⟨rfl, ?_⟩
    walk_at "st"
    refine ite_d (fun hn => ?_) (fun hn => ?_)
    · walk_at "st"
      refine ⟨rfl, ?_⟩
      rw [decide_eq_true hn]
      exact q H2 (gt1.trans gt2)
    · walk_at "st"
      have hs : scal v v = true := by
        cases hv with
        | non => exact absurd rfl hn
        | bl b => rfl
        | int i => rfl
        | str x => rfl
        | lst => cases hL
        | tup => cases hT
        | dct => cases hD
      refine s_eq hs ?_
      rw [decide_eq_true rfl]
      exact q H2 (gt1.trans gt2)


theorem ok_LveryW {P : Program} {w : World} {K : PySem.W.Frag} {mg : Str → Option Value} {base : Heap} (T : Bn mg)
    (C_Lsame : DfA (GH 1) P w K mg base "_law_same" ["found", "due"] (sp_LsameW K))
    {f : Addr} {fd : FuncData} (F : FunD K "_law_very" "_law_very" (defArgs s_Lvery) (defBody s_Lvery) (defScope s_Lvery) [] [] f fd) :
    FnA (GH 2) P w K mg base f fd ["kept", "thing"] (sp_LveryW K) := by
  refine okA false F sc_Lvery (fun vs H Q h => ?_) (fun A gA => gA.depth) (fun z => by cases z) (fun cdv A outer s H vs Q gA h => ?_)
  · obtain ⟨v, d, rfl, _⟩ := h
    rfl
  · have hr := gA.deeper (envOfC "_law_very" (defScope s_Lvery) s.heap.objs.size f cdv)
    have hu : (A.deeper (envOfC "_law_very" (defScope s_Lvery) s.heap.objs.size f cdv)).units + 1 < cLine := by have := hr.un; omega
    obtain ⟨v, d, rfl, hv, hul, hnl, hT, hsm, q⟩ := h
    refine ⟨_, (pss_cons (ps_if (pt_val (pe_callB kisD (by rfl) T.isinstance (by decide +kernel) (pa_cons (pv 1) (pa_cons (pe_tyn "list" T.list) pa_nil)))) (pss_cons (ps_expr (kbm K PySem.F.plainAttrs_list PySem.F.slot_list_append PySem.F.type_list_append mt_append (pv 1) (pa_cons pe_str pa_nil)))
    (pss_cons (ps_set (i := 2) sc_Lvery.nd rfl (Or.inl rfl) (pe_and (pe_callB (kisY K) (by rfl) T.isinstance (by decide +kernel) (pa_cons (pv 0) (pa_cons (pe_tyn "list" T.list) pa_nil))) (pe_and (pe_cmpR op_eq (pe_callB (klen K) (by rfl) T.len (by decide +kernel) (pa_cons (pv 0) pa_nil)) (pe_callB (klen K) (by rfl) T.len (by decide +kernel) (pa_cons (pv 1) pa_nil)) (nomark _)) (pe_one (pe_cmpR op_eq (pe_ix (kx_list K) (pv 0) (pe_un un_neg pe_int) (fun _ _ => rfl)) pe_str (nomark _))))))
    (pss_cons (ps_expr (kbm0 K PySem.F.plainAttrs_list PySem.F.slot_list_pop PySem.F.type_list_pop mt_pop (pv 1)))
    (pss_one (ps_ret (pv 2)))))) pss_nil)
    (pss_cons (ps_if (pt_val (pe_callB kisD (by rfl) T.isinstance (by decide +kernel) (pa_cons (pv 1) (pa_cons (pe_tyn "dict" T.dict) pa_nil)))) (pss_cons (ps_dput hu (pv 1) pe_str pe_int rfl)
    (pss_cons (ps_set (i := 2) sc_Lvery.nd rfl (Or.inl rfl) (pe_and (pe_callB (kisY K) (by rfl) T.isinstance (by decide +kernel) (pa_cons (pv 0) (pa_cons (pe_tyn "dict" T.dict) pa_nil))) (pe_and (pe_cmpR op_eq (pe_callB (klen K) (by rfl) T.len (by decide +kernel) (pa_cons (pv 0) pa_nil)) (pe_callB (klen K) (by rfl) T.len (by decide +kernel) (pa_cons (pv 1) pa_nil)) (nomark _)) (pe_one (pe_cmpR op_eq (pe_dget1 hu (pv 0) pe_str ⟨rfl, rfl, rfl, rfl⟩) pe_int (nomark _))))))
    (pss_cons (ps_expr (pe_dpop1 (pv 1) pe_str ⟨rfl, rfl, rfl, rfl⟩))
    (pss_one (ps_ret (pv 2)))))) pss_nil)
    (pss_cons (ps_if (PW.pt (pw_or (pt_val (pe_callB kisDT (by rfl) T.isinstance (by decide +kernel) (pa_cons (pv 1) (pa_cons (pe_tup (pa_cons (pe_tyn "tuple" T.tuple) (pa_cons (pe_tyn "str" T.str) (pa_cons (pe_tyn "bool" T.bool) (pa_cons (pe_tyn "int" T.int) pa_nil))))) pa_nil)))) (pw_or1 (pt_cmpR op_isN (pv 1) pe_non (nomark _))))) (pss_one (ps_ret (pe_dfA C_Lsame hr (pa_cons (pv 0) (pa_cons (pv 1) pa_nil))))) pss_nil)
    (pss_one ps_never)))), ?_⟩
    walk_at "go"
    refine ite_b (fun hL => ?_) (fun hL => ?_)
    · -- lists
      cases d with
      | list ds =>
        cases hv with
        | @lst a xs _ na ra ia =>
        have ea : H a = some (.lst xs) := ra.elim id fun ⟨o, z⟩ => absurd z (hul _ _)
        rw [sm, Bool.and_eq_true] at hsm
        have hl1 : ds.length ≤ 1000 := of_decide_eq_true hsm.1
        have hlx := ia.length
        walk_at "st"
        refine ⟨.inl ⟨rfl, xs, .of ea⟩, ?_⟩
        walk_at "st"
        refine ⟨a, xs, _, rfl, rfl, ea, Nat.lt_of_lt_of_le (show xs.length < 100000 by omega) (by decide), ?_⟩
        walk_at "st"
        refine ⟨_, "list", "list", rfl, by decide, by decide, .base (.lst upd_same), ?_⟩
        rw [show subT "list" "list" = true from by decide +kernel]
        walk_at "st"
        refine ⟨_, _, rfl, .inl (len_l (.of upd_same)), ?_⟩
        walk_at "st"
        refine ⟨_, _, rfl, .inl (len_l (.of upd_same)), ?_⟩
        walk_at "st"
        refine s_ixl (.of upd_same) (atI_last xs _) ?_
        walk_at "st"
        refine ⟨.inl ⟨rfl, _, .of upd_same⟩, ?_⟩
        refine ⟨a, _, .str " late ", rfl, rfl, upd_same, by simp, ?_⟩
        rw [List.dropLast_concat, upd_back ea]
        walk_at "st"
        rw [decide_eq_true rfl]
        exact q H (.refl _ _)
      | _ => cases hL
    · walk_at "st"
      refine ite_b (fun hD => ?_) (fun hD => ?_)
      · cases d with
        | dict ds =>
          cases hv with
          | @dct a kvs _ na ra nda ia =>
          have ea : H a = some (.dK kvs) := ra.elim id fun ⟨o, z⟩ => absurd z (hul _ _)
          rw [sm, Bool.and_eq_true] at hsm
          have hl1 : ds.length ≤ 1000 := of_decide_eq_true hsm.1
          have hlx := ia.length
          walk_at "st"
          have hk : (.inr " late " : Key) ∉ kvs.map (·.1) := fun z => by
            obtain ⟨p, hp, e⟩ := List.mem_map.mp z
            have h1 : kD p.1 ∈ ds.map (·.1) := by rw [ia.keys]; exact List.mem_map.mpr ⟨p, hp, rfl⟩
            obtain ⟨y, hy, e2⟩ := List.mem_map.mp h1
            exact hnl ds rfl y hy (by rw [e2, e]; rfl)
          refine ⟨a, _, rfl, DPut.k (k := .inr " late ") ea (Nat.lt_of_lt_of_le (show kvs.length < 100000 by omega) (by decide)), ?_⟩
          rw [putK_new hk]
          walk_at "st"
          refine ⟨_, "dict", "dict", rfl, by decide, by decide, .base (.dK upd_same), ?_⟩
          rw [show subT "dict" "dict" = true from by decide +kernel]
          walk_at "st"
          refine ⟨_, _, rfl, .inr ⟨a, _, rfl, .inl upd_same, rfl⟩, ?_⟩
          walk_at "st"
          refine ⟨_, _, rfl, .inr ⟨a, _, rfl, .inl upd_same, rfl⟩, ?_⟩
          walk_at "st"
          refine s_var rfl ⟨a, rfl, .inl ⟨_, .inl upd_same⟩, ?_⟩
          walk_at "st"
          refine ⟨_, .inl ⟨_, .inr " late ", .inl upd_same, rfl, (valV_snoc hk).symm⟩, ?_⟩
          rw [Option.getD_some]
          walk_at "st"
          refine s_var rfl ⟨a, rfl, .inl ⟨_, .inl upd_same⟩, ?_⟩
          walk_at "st"
          refine ⟨_, .inr " late ", _, upd_same, rfl, valV_snoc hk, ?_⟩
          rw [dropK_snoc hk, upd_back ea]
          walk_at "st"
          rw [decide_eq_true rfl]
          exact q H (.refl _ _)
        | _ => cases hD
      · walk_at "st"
        intro t1 nt1
        walk_at "st"
        refine s_isTSBI hv ?_ nt1
        walk_at "st"
        have gt1 : Nx [] H (upd H t1 (.tup [.ty "tuple", .ty "str", .ty "bool", .ty "int"])) := .new nt1
        refine ite_b (fun h1 => ?_) (fun h1 => ?_)
        · walk_at "st"
          exact ⟨v, d, rfl, hv.nx gt1, hD, hL, hT, fun H' g => q H' (gt1.trans g)⟩
        · walk_at "st"
          have hn : v = .non := by
            cases hv with
            | non => rfl
            | lst => cases hL
            | dct => cases hD
            | _ => simp [isTupD, isStrD, isBoolD, isIntD] at h1
          subst hn
          refine ⟨rfl, ?_⟩
          walk_at "st"
          exact ⟨_, d, rfl, hv.nx gt1, hD, hL, hT, fun H' g => q H' (gt1.trans g)⟩


theorem ok_is_number {P : Program} {w : World} {K : PySem.W.Frag} {mg : Str → Option Value} {base : Heap} (T : Bn mg) {C : Addr}
    (RC : RingC K mg C)
    (D_is_integer : Df P w K mg base CX0 1 "is_integer" ["thing"] (spW C W_is_integer)) 
    {f : Addr} {fd : FuncData} (F : FunD K "is_number" "is_number" (defArgs s_is_number) (defBody s_is_number) (defScope s_is_number) [] [] f fd) :
    FnOk P w K mg base CX0 2 f fd ["thing"] (spW C W_is_number) := by
  apply okW2 F sc_is_number
  case len =>
    intro xs n R h
    obtain ⟨d, rfl, _⟩ := h
    rfl
  case hp =>
    intro cdv A outer s H E hr
    exact (pss_one (ps_ret (pe_and (pe_df D_is_integer hr (pa_cons (pv 0) pa_nil)) (pe_one (pe_cmpR op_ge (pv 0) pe_int (nomark _))))))
  case hd => walk_at "td"
  case hs =>
    rintro xs n R ⟨d, rfl, hR⟩
    walk_at "dgo"
    refine ⟨d, rfl, ?_⟩
    walk_at "ds"
    refine ite_b (fun h => ?_) (fun h => ?_)
    · cases d with
      | int i =>
        walk_at "ds"
        exact hR
      | _ => cases h
    · have : isNumB d = false := by cases d <;> first | rfl | cases h
      rw [this] at hR
      exact hR


theorem ok_is_drifts {P : Program} {w : World} {K : PySem.W.Frag} {mg : Str → Option Value} {base : Heap} (T : Bn mg) {C : Addr}
    (RC : RingC K mg C)
    (D_Ring_names : Mt P w K mg base C 1 "names" ["self"] (spW C W_Ring_names))
    (D_is_between : Df P w K mg base CX0 2 "is_between" ["thing", "low", "high"] (spW C W_is_between))
    (D_Ring_hours : Mt P w K mg base C 1 "hours" ["self"] (spW C W_Ring_hours))
    (C_Ring_len : Mt P w K mg base C 1 "__len__" ["self"] (sp_Ring_len K C)) 
    {f : Addr} {fd : FuncData} (F : FunD K "is_drifts" "is_drifts" (defArgs s_is_drifts) (defBody s_is_drifts) (defScope s_is_drifts) [] [] f fd) :
    FnOk P w K mg base CX0 3 f fd ["ring", "thing"] (spW C W_is_drifts) := by
  apply okW2 F sc_is_drifts
  case len =>
    intro xs n R h
    obtain ⟨h, A, d, rfl, _⟩ := h
    rfl
  case hp =>
    intro cdv A outer s H E hr
    exact (pss_cons (ps_if (PW.pt (pw_or (pt_not (pt_val (pe_callB kisD (by rfl) T.isinstance (by decide +kernel) (pa_cons (pv 1) (pa_cons (pe_tyn "dict" T.dict) pa_nil))))) (pw_or1 (pt_cmpR op_ne (pe_callB (klen K) (by rfl) T.len (by decide +kernel) (pa_cons (pv 1) pa_nil)) (pe_callB (call_ownLen C_Ring_len hr) (by rfl) T.len (by decide +kernel) (pa_cons (pv 0) pa_nil)) (nomark _))))) (pss_one (ps_ret pe_bl)) pss_nil)
    (pss_one (ps_ret (pe_callB (kall K) (by rfl) T.all (by decide +kernel) (pa_cons (pe_lc (own := [("name", 2)]) (tt := tYes) rfl sc_is_drifts.nd (ki_list K (pe_mm0 D_Ring_names hr (pv 0))) (blkOk_by (N := n_is_drifts) (sc := defScope s_is_drifts) (by decide +kernel)) (fun _ _ _ _ _ => (pg_name (i := 2) sc_is_drifts.nd rfl (Or.inl rfl))) (fun _ _ _ _ _ => pts_nil) (fun _ _ _ _ _ => (pe_and (pe_cmpR (op_din (hu_of hr)) (pv 2) (pv 1) (by rfl)) (pe_one (pe_df D_is_between hr (pa_cons (pe_dget (hu_of hr) (pv 1) (pv 2) (fun _ _ => rfl)) (pa_cons pe_int (pa_cons (pe_op op_sub (pe_mm0 D_Ring_hours hr (pv 0)) pe_int) pa_nil)))))))) pa_nil)))))
  case hd => walk_at "td"
  case hs =>
    rintro xs n R ⟨h, A, d, rfl, hA, hR⟩
    walk_at "dgo"
    by_cases hd : ∃ ds, d = .dict ds
    · obtain ⟨ds, rfl⟩ := hd
      rw [isT_dict]
      show if (!true) = true then _ else _
      walk_at "ds"
      refine ite_nb (fun hl => ?_) (fun hl => ?_)
      · have : isDriftsB h A (.dict ds) = false := by
          show (decide (ds.length = A.length) && _) = false
          rw [Bool.and_eq_false_iff]
          exact .inl (decide_eq_false fun e => by rw [e] at hl; simp at hl)
        rw [this] at hR
        walk_at "ds"
        exact hR
      · have hl2 : ds.length = A.length := by have := of_decide_eq_true hl; omega
        walk_at "ds"
        refine ⟨h, A, rfl, hA, fun ys py sy => ?_⟩
        walk_at "ds"
        have ly : ys.length ≤ 40 := by rw [py.length_eq, List.length_map]; exact hA
        refine lcg_map (fun _ => true) (strP (driftB h ds)) ?_ ?_ ?_
        · rw [List.length_map]; omega
        · rintro i d acc ed ha
          obtain ⟨x, ex, rfl⟩ := strs_at ed
          walk_at "ds"
          refine ite_b (fun e => ?_) (fun e => ?_)
          · cases el : lookK ds (.inr x) with
            | none => rw [el] at e; cases e
            | some v =>
              walk_at "ds"
              refine ⟨h, A, rfl, ?_⟩
              walk_at "ds"
              refine ⟨v, 0, h - 1, rfl, ?_⟩
              have ev : strP (driftB h ds) (.str x) = .bool (betB v 0 (h - 1)) := by show PyData.bool (driftB h ds x) = _; unfold driftB; rw [el]
              rw [← ev]
              exact ⟨_, rfl, rfl, rfl, lc_yes ha ed rfl⟩
          · have en : lookK ds (.inr x) = none := by
              cases el : lookK ds (.inr x) with
              | none => rfl
              | some v => rw [el] at e; cases e
            have ev : strP (driftB h ds) (.str x) = .bool false := by show PyData.bool (driftB h ds x) = _; unfold driftB; rw [en]
            rw [← ev]
            exact ⟨_, rfl, rfl, rfl, lc_yes ha ed rfl⟩
        · rw [filter_yes, strs_P]
          walk_at "ds"
          rw [List.all_map] 
          have : isDriftsB h A (.dict ds) = ys.all (driftB h ds) := by
            show (decide (ds.length = A.length) && _) = _
            rw [decide_eq_true hl2, Bool.true_and]
            exact (all_perm py).symm
          rw [this] at hR
          exact hR
    · rw [isT_dict_no fun ds e => hd ⟨ds, e⟩]
      walk_at "ds"
      have : isDriftsB h A d = false := by
        cases d with
        | dict ds => exact absurd ⟨ds, rfl⟩ hd
        | _ => rfl
      rw [this] at hR
      exact hR


theorem ok_check_drifts {P : Program} {w : World} {K : PySem.W.Frag} {mg : Str → Option Value} {base : Heap} (T : Bn mg) {C : Addr}
    (RC : RingC K mg C)
    (D_is_drifts : Df P w K mg base CX0 3 "is_drifts" ["ring", "thing"] (spW C W_is_drifts)) 
    {f : Addr} {fd : FuncData} (F : FunD K "check_drifts" "check_drifts" (defArgs s_check_drifts) (defBody s_check_drifts) (defScope s_check_drifts) [] [] f fd) :
    FnOk P w K mg base CX0 4 f fd ["ring", "drifts"] (spW C W_check_drifts) := by
  apply okW2 F sc_check_drifts
  case len =>
    intro xs n R h
    obtain ⟨h, A, d, rfl, _⟩ := h
    rfl
  case hp =>
    intro cdv A outer s H E hr
    exact (pss_one (ps_if (pt_not (pt_val (pe_df D_is_drifts hr (pa_cons (pv 0) (pa_cons (pv 1) pa_nil))))) (pss_one ps_never) pss_nil))
  case hd => walk_at "td"
  case hs =>
    rintro xs n R ⟨h, A, d, rfl, hA, hB, hR⟩
    walk_at "dgo"
    refine ⟨h, A, d, rfl, hA, ?_⟩
    rw [hB]
    walk_at "ds"
    exact hR


theorem ok_check_driftsX {P : Program} {w : World} {K : PySem.W.Frag} {mg : Str → Option Value} {base : Heap} (T : Bn mg)
    {C : Addr} (RC : RingC K mg C)
    (D_is_drifts : Df P w K mg base CX0 3 "is_drifts" ["ring", "thing"] (spW C W_is_drifts))
    {CB : Addr} (Z_BadDrifts : Rz P w K mg base "BadDrifts" CB "drifts")
    {f : Addr} {fd : FuncData} (F : FunD K "check_drifts" "check_drifts" (defArgs s_check_drifts) (defBody s_check_drifts) (defScope s_check_drifts) [] [] f fd) :
    FnOk P w K mg base (L2.CX P w) 4 f fd ["ring", "drifts"] (sp_check_driftsX K C CB) := by
  refine F.ok sc_check_drifts (fun vs H Q E h => ?_) (fun cdv A outer s H vs Q E hr h => ?_)
  · obtain ⟨r, h, A, v, d, rfl, _⟩ := h
    rfl
  · obtain ⟨r, h, A, v, d, rfl, hr1, hA, hv, q⟩ := h
    refine ⟨_, (pss_one (ps_if (pt_not (pt_val (pe_df D_is_drifts hr (pa_cons (pv 0) (pa_cons (pv 1) pa_nil))))) (pss_one (ps_raiseX rfl Z_BadDrifts hr (takes_of rfl rfl rfl rfl) (pa_cons (pv 1) pa_nil))) pss_nil)), ?_⟩
    walk_at "go"
    refine spW_in (xs := [.ring h A, .d d]) (R := fun x _ => x = .d (.bool (isDriftsB h A d))) (.cons ⟨r, rfl, hr1⟩ (.cons hv .nil)) ⟨h, A, d, rfl, hA, rfl⟩ (fun w x H' g sw ⟨_, ex⟩ => ?_)
    subst ex
    obtain ⟨q1, q2⟩ := q H' g
    cases (show Im [] H' w (.bool (isDriftsB h A d)) from sw)
    refine ⟨_, rfl, ?_⟩
    cases e : isDriftsB h A d with
    | true => exact iteF (show tNext _ _ _ from q1 e)
    | false =>
      refine iteT ?_
      walk_at "st"
      exact mkO_end (q2 e)


theorem ok_start_on {P : Program} {w : World} {K : PySem.W.Frag} {mg : Str → Option Value} {base : Heap} (T : Bn mg) {C : Addr}
    (RC : RingC K mg C)
    (D_Ring_arc : Mt P w K mg base C 2 "arc" ["self", "name"] (spW C W_Ring_arc))
    (D_Ring_hours : Mt P w K mg base C 1 "hours" ["self"] (spW C W_Ring_hours)) 
    {f : Addr} {fd : FuncData} (F : FunD K "start_on" "start_on" (defArgs s_start_on) (defBody s_start_on) (defScope s_start_on) [] [] f fd) :
    FnOk P w K mg base CX0 3 f fd ["ring", "drifts", "name", "day"] (spW C W_start_on) := by
  apply okW2 F sc_start_on
  case len =>
    intro xs n R h
    obtain ⟨h, A, D, x, day, rfl, _⟩ := h
    rfl
  case hp =>
    intro cdv A outer s H E hr
    exact (pss_one (ps_ret (pe_op op_mod (pe_op op_add (pe_ix (kx_tup K) (pe_mm D_Ring_arc hr (pv 0) (pa_cons (pv 2) pa_nil)) pe_int (fun _ _ => rfl)) (pe_op op_mul (pv 3) (pe_dget (hu_of hr) (pv 1) (pv 2) (fun _ _ => rfl)))) (pe_mm0 D_Ring_hours hr (pv 0)))))
  case hd => walk_at "td"
  case hs =>
    rintro xs n R ⟨h, A, D, x, day, rfl, nd, hx, hd, h0, d0, d1, e0, e1, hR⟩
    walk_at "dgo"
    refine ⟨h, A, x, rfl, nd, hx, ?_⟩
    have el : lookK (numsKv D) (.inr x) = some (.int (numOf D x)) := by rw [look_nums, if_pos hd]
    walk_at "ds"
    refine ⟨h, A, rfl, ?_⟩
    walk_at "ds"
    exact hR


theorem ok_turned_on {P : Program} {w : World} {K : PySem.W.Frag} {mg : Str → Option Value} {base : Heap} (T : Bn mg) {C : Addr}
    (RC : RingC K mg C)
    (D_Ring_names : Mt P w K mg base C 1 "names" ["self"] (spW C W_Ring_names))
    (D_Ring_arc : Mt P w K mg base C 2 "arc" ["self", "name"] (spW C W_Ring_arc))
    (D_start_on : Df P w K mg base CX0 3 "start_on" ["ring", "drifts", "name", "day"] (spW C W_start_on))
    (C_new_Ring : C8.Mak P w K mg base 4 "Ring" C (sp_Ring_init K C) [])
    (D_Ring_hours : Mt P w K mg base C 1 "hours" ["self"] (spW C W_Ring_hours)) 
    {f : Addr} {fd : FuncData} (F : FunD K "turned_on" "turned_on" (defArgs s_turned_on) (defBody s_turned_on) (defScope s_turned_on) [] [] f fd) :
    FnOk P w K mg base CX0 6 f fd ["ring", "drifts", "day"] (spW C W_turned_on) := by
  apply okW2 F sc_turned_on
  case len =>
    intro xs n R h
    obtain ⟨h, A, D, day, rfl, _⟩ := h
    rfl
  case hp =>
    intro cdv A outer s H E hr
    exact (pss_cons (ps_setDc (i := 3) (own := [("name", 4)]) (tt := tYes) rfl sc_turned_on.nd rfl rfl (sw_trueD rfl rfl rfl (by decide +kernel)) (ki_list K (pe_mm0 D_Ring_names hr (pv 0))) (blkOk_by (N := n_turned_on) (sc := defScope s_turned_on) (by decide +kernel)) (fun _ _ _ _ _ => (pg_name (i := 4) sc_turned_on.nd rfl (Or.inl rfl))) (fun _ _ _ _ _ => pts_nil) (fun _ _ _ _ _ => (pv 4)) (fun _ _ _ _ _ => (pe_tup (pa_cons (pe_df D_start_on hr (pa_cons (pv 0) (pa_cons (pv 1) (pa_cons (pv 4) (pa_cons (pv 2) pa_nil))))) (pa_cons (pe_ix (kx_tup K) (pe_mm D_Ring_arc hr (pv 0) (pa_cons (pv 4) pa_nil)) pe_int (fun _ _ => rfl)) pa_nil)))))
    (pss_one (ps_ret (C8.pe_mk C_new_Ring hr (by first | decide | omega) rfl (pa_cons (pe_mm0 D_Ring_hours hr (pv 0)) (pa_cons (pv 3) pa_nil))))))
  case hd => walk_at "td"
  case hs =>
    rintro xs n R ⟨h, A, D, day, rfl, ra, dr, d0, d1, hR⟩
    have z1 := ra.h1
    have z2 := ra.h2
    have nd := ra.ok.nd
    walk_at "dgo"
    refine ⟨h, A, rfl, ra.ln, fun ys py sy => ?_⟩
    have nys : ys.Nodup := py.nodup_iff.mpr nd
    have lys : ys.length ≤ 40 := by rw [py.length_eq, List.length_map]; exact ra.ln
    walk_at "ds"
    refine dcg (MapTo (fun x => arcD (starts h A D x day, (arcOf A x).2)) ys n) ⟨rfl, rfl⟩ ?_ ?_
    · rintro i d acc m ed ha
      obtain ⟨x, ex, rfl⟩ := strs_at ed
      have hx : x ∈ A.map (·.1) := py.mem_iff.mp (List.mem_of_getElem? ex)
      have hd := dr.at_ hx
      have hi := (List.getElem?_eq_some_iff.mp ex).1
      have hacc : acc.length < 1000000 := by obtain ⟨_, rfl⟩ := ha; rw [List.length_map, List.length_take]; omega
      refine ⟨hacc, ?_⟩
      walk_at "ds"
      refine ⟨h, A, D, x, day, rfl, nd, hx, dr.mem hx, by omega, hd.1, by omega, d0, by omega, ?_⟩
      walk_at "ds"
      refine ⟨h, A, x, rfl, nd, hx, ?_⟩
      walk_at "ds"
      exact ⟨_, _, _, rfl, rfl, rfl, rfl, ha.snoc nys ex⟩
    · rintro acc m ⟨rfl, rfl⟩
      rw [List.length_map, List.take_length]
      walk_at "ds"
      refine ⟨h, A, rfl, ?_⟩
      walk_at "ds"
      refine ⟨h, turnA h A D day ys, _, by rw [show (List.map (fun x => (PyData.str x, arcD (starts h A D x day, (arcOf A x).2))) ys) = kvsD (turnA h A D day ys) by unfold kvsD turnA; rw [List.map_map]; rfl]; rfl, arcs_self _, (ra.turn py).ok, (ra.turn py).ln, ra.h1, ra.h2, fun zs pz => ?_⟩
      rw [turn_names] at pz
      rw [arcsBy_turn pz]
      exact hR zs (pz.trans py)


theorem ok_ring_on {P : Program} {w : World} {K : PySem.W.Frag} {mg : Str → Option Value} {base : Heap} (T : Bn mg) {C : Addr}
    (RC : RingC K mg C)
    (D_check_drifts : Df P w K mg base CX0 4 "check_drifts" ["ring", "drifts"] (spW C W_check_drifts))
    (D_is_number : Df P w K mg base CX0 2 "is_number" ["thing"] (spW C W_is_number))
    (D_turned_on : Df P w K mg base CX0 6 "turned_on" ["ring", "drifts", "day"] (spW C W_turned_on)) 
    {f : Addr} {fd : FuncData} (F : FunD K "ring_on" "ring_on" (defArgs s_ring_on) (defBody s_ring_on) (defScope s_ring_on) [] [] f fd) :
    FnOk P w K mg base CX0 7 f fd ["ring", "drifts", "day"] (spW C W_ring_on) := by
  apply okW2 F sc_ring_on
  case len =>
    intro xs n R h
    obtain ⟨h, A, D, day, rfl, _⟩ := h
    rfl
  case hp =>
    intro cdv A outer s H E hr
    exact (pss_cons (ps_expr (pe_df D_check_drifts hr (pa_cons (pv 0) (pa_cons (pv 1) pa_nil))))
    (pss_cons (ps_if (pt_not (pt_val (pe_df D_is_number hr (pa_cons (pv 2) pa_nil)))) (pss_one ps_never) pss_nil)
    (pss_one (ps_ret (pe_df D_turned_on hr (pa_cons (pv 0) (pa_cons (pv 1) (pa_cons (pv 2) pa_nil))))))))
  case hd => walk_at "td"
  case hs =>
    rintro xs n R ⟨h, A, D, day, rfl, ra, dr, d0, d1, hR⟩
    walk_at "dgo"
    refine ⟨h, A, numsD D, rfl, ra.ln, dr.is, ?_⟩
    walk_at "ds"
    refine ⟨.int day, rfl, ?_⟩
    rw [show isNumB (.int day) = true from decide_eq_true d0]
    walk_at "ds"
    exact ⟨h, A, D, day, rfl, ra, dr, d0, d1, hR⟩


theorem ok_is_wishes {P : Program} {w : World} {K : PySem.W.Frag} {mg : Str → Option Value} {base : Heap} (T : Bn mg) {C : Addr}
    (RC : RingC K mg C)
    (D_is_between : Df P w K mg base CX0 2 "is_between" ["thing", "low", "high"] (spW C W_is_between))
    (D_Ring_hours : Mt P w K mg base C 1 "hours" ["self"] (spW C W_Ring_hours))
    (C_Ring_contains : Mt P w K mg base C 1 "__contains__" ["self", "name"] (sp_Ring_contains K C)) 
    {f : Addr} {fd : FuncData} (F : FunD K "is_wishes" "is_wishes" (defArgs s_is_wishes) (defBody s_is_wishes) (defScope s_is_wishes) [] [] f fd) :
    FnOk P w K mg base CX0 3 f fd ["ring", "thing"] (spW C W_is_wishes) := by
  apply okW2 F sc_is_wishes
  case len =>
    intro xs n R h
    obtain ⟨h, A, d, rfl, _⟩ := h
    rfl
  case hp =>
    intro cdv A outer s H E hr
    exact (pss_cons (ps_if (pt_not (pt_val (pe_callB kisD (by rfl) T.isinstance (by decide +kernel) (pa_cons (pv 1) (pa_cons (pe_tyn "dict" T.dict) pa_nil))))) (pss_one (ps_ret pe_bl)) pss_nil)
    (pss_one (ps_ret (pe_callB (kall K) (by rfl) T.all (by decide +kernel) (pa_cons (pe_lockU (pe_lc (own := [("name", 2)]) (tt := tYes) rfl sc_is_wishes.nd (pi_keys (pv 1)) (blkOk_by (N := n_is_wishes) (sc := defScope s_is_wishes) (by decide +kernel)) (fun _ _ _ _ _ => (pg_name (i := 2) sc_is_wishes.nd rfl (Or.inl rfl))) (fun _ _ _ _ _ => pts_nil) (fun _ _ _ _ _ => (pe_and (pe_cmpR (op_ownIn C_Ring_contains hr) (pv 2) (pv 0) (by rfl)) (pe_one (pe_df D_is_between hr (pa_cons (pe_dget (hu_of hr) (pv 1) (pv 2) (fun _ _ => rfl)) (pa_cons pe_int (pa_cons (pe_op op_sub (pe_mm0 D_Ring_hours hr (pv 0)) pe_int) pa_nil))))))))) pa_nil)))))
  case hd => walk_at "td"
  case hs =>
    rintro xs n R ⟨h, A, d, rfl, hA, hk, hR⟩
    walk_at "dgo"
    by_cases hd : ∃ ds, d = .dict ds
    · obtain ⟨ds, rfl⟩ := hd
      obtain ⟨hl, hk⟩ := hk ds rfl
      rw [isT_dict]
      show if (!true) = true then _ else _
      walk_at "ds"
      refine lcg_map (fun _ => true) (fun k => .bool (wishB h A ds k)) ?_ ?_ ?_
      · unfold keysD; rw [List.length_map]; omega
      · rintro i d acc ed ha
        have hm : d ∈ keysD ds := List.mem_of_getElem? ed
        obtain ⟨p, hp, rfl⟩ := List.mem_map.mp hm
        obtain ⟨k, ek, hs⟩ := hk p hp
        have ev : (fun k => PyData.bool (wishB h A ds k)) p.1 = .bool (wishB h A ds p.1) := rfl
        walk_at "ds"
        refine ⟨p.1, h, A, rfl, rfl, ?_⟩
        cases k with
        | inl j =>
          rw [ek] at ev ed ⊢
          show ∃ c, DV.d (.bool false) = _ ∧ _
          walk_at "ds"
          exact ⟨_, rfl, rfl, rfl, lc_yes ha ed rfl⟩
        | inr x =>
          rw [ek] at ev ed ⊢
          show ∃ c, DV.d (.bool (decide (x ∈ A.map (·.1)) != false)) = _ ∧ _
          rw [Bool.bne_false]
          obtain ⟨v, ev2⟩ := Option.isSome_iff_exists.mp hs
          walk_at "ds"
          refine ite_b (fun e => ?_) (fun e => ?_)
          · walk_at "ds"
            refine ⟨h, A, rfl, ?_⟩
            walk_at "ds"
            refine ⟨v, 0, h - 1, rfl, ?_⟩
            have ew : wishB h A ds (.str x) = betB v 0 (h - 1) := by show (decide (x ∈ A.map (·.1)) && driftB h ds x) = _; rw [e, Bool.true_and]; unfold driftB; rw [ev2]
            rw [← ew]
            exact ⟨_, rfl, rfl, rfl, lc_yes ha ed rfl⟩
          · have ew : wishB h A ds (.str x) = false := by show (decide (x ∈ A.map (·.1)) && driftB h ds x) = _; rw [e, Bool.false_and]
            rw [← ew]
            exact ⟨_, rfl, rfl, rfl, lc_yes ha ed rfl⟩
      · rw [filter_yes, bools_map]
        walk_at "ds"
        rw [List.all_map]
        exact hR
    · rw [isT_dict_no fun ds e => hd ⟨ds, e⟩]
      walk_at "ds"
      have : isWishesB h A d = false := by
        cases d with
        | dict ds => exact absurd ⟨ds, rfl⟩ hd
        | _ => rfl
      rw [this] at hR
      exact hR


theorem ok_days_for {P : Program} {w : World} {K : PySem.W.Frag} {mg : Str → Option Value} {base : Heap} (T : Bn mg) {C : Addr}
    (RC : RingC K mg C)
    (D_Ring_hours : Mt P w K mg base C 1 "hours" ["self"] (spW C W_Ring_hours))
    (D_start_on : Df P w K mg base CX0 3 "start_on" ["ring", "drifts", "name", "day"] (spW C W_start_on)) 
    {f : Addr} {fd : FuncData} (F : FunD K "days_for" "days_for" (defArgs s_days_for) (defBody s_days_for) (defScope s_days_for) [] [] f fd) :
    FnOk P w K mg base CX0 4 f fd ["ring", "drifts", "name", "hour"] (spW C W_days_for) := by
  apply okW2 F sc_days_for
  case len =>
    intro xs n R h
    obtain ⟨h, A, D, x, w, rfl, _⟩ := h
    rfl
  case hp =>
    intro cdv A outer s H E hr
    exact (pss_one (ps_ret (pe_lc (own := [("day", 4)]) rfl sc_days_for.nd (pi_range1 (by rfl) T.range (pa_cons (pe_mm0 D_Ring_hours hr (pv 0)) pa_nil)) (blkOk_by (N := n_days_for) (sc := defScope s_days_for) (by decide +kernel)) (fun _ _ _ _ _ => (pg_name (i := 4) sc_days_for.nd rfl (Or.inl rfl))) (fun _ _ _ _ _ => pts_one (pt_cmpR op_eq (pe_df D_start_on hr (pa_cons (pv 0) (pa_cons (pv 1) (pa_cons (pv 2) (pa_cons (pv 4) pa_nil))))) (pv 3) (nomark _))) (fun _ _ _ _ _ => (pv 4)))))
  case hd => walk_at "td"
  case hs =>
    rintro xs n R ⟨h, A, D, x, w, rfl, ra, dr, hx, hR⟩
    walk_at "dgo"
    refine ⟨h, A, rfl, ?_⟩
    have z1 := ra.h1
    have z2 := ra.h2
    walk_at "ds"
    refine lcg_map (numP fun day => decide (starts h A D x day = w)) id ?_ ?_ ?_
    · rw [intsFrom_length]; omega
    · rintro i d acc ed ha
      obtain ⟨hi, rfl⟩ := intsFrom_some ed
      have z3 := dr.at_ hx
      walk_at "ds"
      refine ⟨h, A, D, x, 0 + (i : Int), rfl, ra.ok.nd, hx, dr.mem hx, by omega, z3.1, by omega, by omega, by omega, ?_⟩
      walk_at "ds"
      refine ite_d (fun e => ?_) (fun e => ?_)
      · walk_at "ds"
        exact ⟨_, rfl, rfl, rfl, lc_yes ha ed (decide_eq_true e)⟩
      · exact ⟨rfl, rfl, lc_no ha ed (decide_eq_false e)⟩
    · rw [ints_D, filter_ints]
      exact hR


theorem ok_all_start {P : Program} {w : World} {K : PySem.W.Frag} {mg : Str → Option Value} {base : Heap} (T : Bn mg) {C : Addr}
    (RC : RingC K mg C)
    (D_check_drifts : Df P w K mg base CX0 4 "check_drifts" ["ring", "drifts"] (spW C W_check_drifts))
    (D_is_wishes : Df P w K mg base CX0 3 "is_wishes" ["ring", "thing"] (spW C W_is_wishes))
    (D_days_for : Df P w K mg base CX0 4 "days_for" ["ring", "drifts", "name", "hour"] (spW C W_days_for)) 
    {f : Addr} {fd : FuncData} (F : FunD K "all_start" "all_start" (defArgs s_all_start) (defBody s_all_start) (defScope s_all_start) [] [] f fd) :
    FnOk P w K mg base CX0 5 f fd ["ring", "drifts", "wishes"] (spW C W_all_start) := by
  apply okW2 F sc_all_start
  case len =>
    intro xs n R h
    obtain ⟨h, A, D, W, rfl, _⟩ := h
    rfl
  case hp =>
    intro cdv A outer s H E hr
    exact (pss_cons (ps_expr (pe_df D_check_drifts hr (pa_cons (pv 0) (pa_cons (pv 1) pa_nil))))
    (pss_cons (ps_if (pt_not (pt_val (pe_df D_is_wishes hr (pa_cons (pv 0) (pa_cons (pv 2) pa_nil))))) (pss_one ps_never) pss_nil)
    (pss_cons (ps_set (i := 3) sc_all_start.nd rfl (Or.inl rfl) (pe_callB (call_sortedD rfl) (by rfl) T.sorted (by decide +kernel) (pa_cons (pv 2) pa_nil)))
    (pss_cons (ps_set (i := 4) sc_all_start.nd rfl (Or.inr rfl) (pe_dc (own := [("name", 5)]) (tt := tYes) rfl sc_all_start.nd (ki_list K (pv 3)) (blkOk_by (N := n_all_start) (sc := defScope s_all_start) (by decide +kernel)) (fun _ _ _ _ _ => (pg_name (i := 5) sc_all_start.nd rfl (Or.inl rfl))) (fun _ _ _ _ _ => pts_nil) (fun _ _ _ _ _ => (pv 5)) (fun _ _ _ _ _ => (pe_df D_days_for hr (pa_cons (pv 0) (pa_cons (pv 1) (pa_cons (pv 5) (pa_cons (pe_dget (hu_of hr) (pv 2) (pv 5) (fun _ _ => rfl)) pa_nil))))))))
    (pss_cons (ps_for PassesOwn.never rfl (ki_list K (pv 3)) (pg_name (i := 5) sc_all_start.nd rfl (Or.inl rfl))
      (pss_one (ps_if (pt_not (kt_truth K (pe_dget (hu_of hr) (pv 4) (pv 5) (fun _ _ => rfl)) (by intro _; rfl))) (pss_one (ps_ret (pe_tup (pa_cons pe_str (pa_cons (pv 5) pa_nil))))) pss_nil)))
    (pss_cons (ps_for PassesOwn.never rfl (ki_enum K (by rfl) T.enumerate (pa_cons (pv 3) pa_nil)) (kgtup (n := 2) K rfl (pgs_cons (pg_name (i := 6) sc_all_start.nd rfl (Or.inl rfl)) (pgs_cons (pg_name (i := 7) sc_all_start.nd rfl (Or.inl rfl)) pgs_nil)))
      (pss_one (ps_for PassesOwn.never rfl (ki_list K (pe_slice (ksl_list K) (pv 3) (po_some (pe_op op_add (pv 6) pe_int)) po_none)) (pg_name (i := 8) sc_all_start.nd rfl (Or.inr rfl))
      (pss_one (ps_if (pt_not (pt_val (pe_callB (kany K) (by rfl) T.any (by decide +kernel) (pa_cons (pe_lc (own := [("day", 9)]) (tt := tYes) rfl sc_all_start.nd (ki_list K (pe_dget (hu_of hr) (pv 4) (pv 7) (fun _ _ => rfl))) (blkOk_by (N := n_all_start) (sc := defScope s_all_start) (by decide +kernel)) (fun _ _ _ _ _ => (pg_name (i := 9) sc_all_start.nd rfl (Or.inl rfl))) (fun _ _ _ _ _ => pts_nil) (fun _ _ _ _ _ => (pe_cmpR (kin_seq K) (pv 9) (pe_dget (hu_of hr) (pv 4) (pv 8) (fun _ _ => rfl)) (by rfl)))) pa_nil)))) (pss_one (ps_ret (pe_tup (pa_cons pe_str (pa_cons (pv 7) (pa_cons (pv 8) pa_nil)))))) pss_nil)))))
    (pss_cons (ps_set (i := 9) sc_all_start.nd rfl (Or.inr rfl) pe_int)
    (pss_cons (ps_while PassesOwn.never (pt_not (pt_val (pe_callB (kall K) (by rfl) T.all (by decide +kernel) (pa_cons (pe_lc (own := [("name", 5)]) (tt := tYes) rfl sc_all_start.nd (ki_list K (pv 3)) (blkOk_by (N := n_all_start) (sc := defScope s_all_start) (by decide +kernel)) (fun _ _ _ _ _ => (pg_name (i := 5) sc_all_start.nd rfl (Or.inl rfl))) (fun _ _ _ _ _ => pts_nil) (fun _ _ _ _ _ => (pe_cmpR (kin_seq K) (pv 9) (pe_dget (hu_of hr) (pv 4) (pv 5) (fun _ _ => rfl)) (by rfl)))) pa_nil)))) (pss_one (ps_aug (i := 9) sc_all_start.nd rfl (Or.inr rfl) pe_int ip_add)))
    (pss_one (ps_ret (pe_tup (pa_cons pe_str (pa_cons (pv 9) pa_nil)))))))))))))
  case hd => walk_at "td"
  case hs =>
    rintro xs n R ⟨h, A, D, W, rfl, ra, dr, wi, hR⟩
    have z1 := ra.h1
    have z2 := ra.h2
    walk_at "dgo"
    refine ⟨h, A, numsD D, rfl, ra.ln, dr.is, ?_⟩
    walk_at "ds"
    refine ⟨h, A, numsD W, rfl, ra.ln, wi.keys, ?_⟩
    rw [wi.is]
    walk_at "ds"
    refine ⟨numsKv W, W.map (·.1), rfl, nums_keys W, by rw [List.length_map]; have := wi.ln; omega, fun ys py sy => ?_⟩
    have nys : ys.Nodup := py.nodup_iff.mpr wi.nd
    have lys : ys.length ≤ 40 := by rw [py.length_eq, List.length_map]; exact wi.ln
    have inA : ∀ x ∈ ys, x ∈ A.map (·.1) := fun x hx => by
      obtain ⟨q, hq, rfl⟩ := List.mem_map.mp (py.mem_iff.mp hx)
      exact wi.inA q hq
    have elW : ∀ x ∈ ys, lookK (numsKv W) (.inr x) = some (.int (numOf W x)) := fun x hx => by rw [look_nums, if_pos (py.mem_iff.mp hx)]
    walk_at "ds"
    have toldAt : ∀ x ∈ ys, lookK (ys.map fun x => (PyData.str x, PyData.list ((dayOf h A D W x).map .int))) (.inr x) = some (.list ((dayOf h A D W x).map .int)) := fun x hx => by rw [look_map, if_pos hx]
    refine dcg (MapTo (fun x => .list ((dayOf h A D W x).map .int)) ys n) ⟨rfl, rfl⟩ ?_ ?_
    · rintro i d acc m ed ha
      obtain ⟨x, ex, rfl⟩ := strs_at ed
      have hx := List.mem_of_getElem? ex
      have hi := (List.getElem?_eq_some_iff.mp ex).1
      have hacc : acc.length < 1000000 := by obtain ⟨_, rfl⟩ := ha; rw [List.length_map, List.length_take]; omega
      have ew := elW x hx
      refine ⟨hacc, ?_⟩
      walk_at "ds"
      refine ⟨h, A, D, x, numOf W x, rfl, ra, dr, inA x hx, ?_⟩
      exact ⟨_, _, _, rfl, rfl, rfl, rfl, ha.snoc nys ex⟩
    rintro acc n' ⟨en, rfl⟩
    obtain rfl := en.symm
    rw [List.length_map, List.take_length]
    generalize hT : (ys.map fun x => (PyData.str x, PyData.list ((dayOf h A D W x).map .int))) = T at toldAt
    walk_at "ds"
    have hR := hR ys py sy
    refine forg (fun i δ n' => ∃ v5, n' = n ∧ δ = [some (DO.v (DV.ring h A)), some (DO.v (DV.d (numsD D))), some (DO.v (DV.d (numsD W))), some (DO.v (DV.d (PyData.list (List.map PyData.str ys)))), some (DO.m T), v5, none, none, none, none] ∧ (ys.take i).find? (fun x => (dayOf h A D W x).isEmpty) = none) ⟨_, rfl, rfl, rfl⟩ ?_ ?_
    · rintro i d δ n' ed ⟨v5, en, rfl, hf⟩
      obtain rfl := en.symm
      obtain ⟨x, ex, rfl⟩ := strs_at ed
      have hx := List.mem_of_getElem? ex
      have et := toldAt x hx
      walk_at "ds"
      cases eq : dayOf h A D W x with
      | nil =>
        have : dueD h A D W ys = .tuple [.str "alone", .str x] := by unfold dueD; rw [find_at ex hf (by show (dayOf h A D W x).isEmpty = true; rw [eq]; rfl)]
        rw [this] at hR
        refine ite_t rfl ?_
        walk_at "ds"
        exact hR
      | cons a r =>
        refine ite_f rfl ?_
        walk_at "ds"
        exact ⟨_, rfl, rfl, find_step ex hf (by show (dayOf h A D W x).isEmpty = false; rw [eq]; rfl)⟩
    rintro δ n' ⟨v5, en, rfl, hf⟩
    obtain rfl := en.symm
    rw [List.length_map, List.take_length] at hf
    walk_at "ds"
    have dueP : ∀ {p}, apartR (badP h A D W) ys = some p → dueD h A D W ys = .tuple [.str "apart", .str p.1, .str p.2] := fun {p} e => by unfold dueD; rw [hf]; simp only [e]
    refine forg (fun i δ n' => ∃ v5 v6 v7 v8, n' = n ∧ δ = [some (DO.v (DV.ring h A)), some (DO.v (DV.d (numsD D))), some (DO.v (DV.d (numsD W))), some (DO.v (DV.d (PyData.list (List.map PyData.str ys)))), some (DO.m T), v5, v6, v7, v8, none] ∧ apartR (badP h A D W) ys = apartR (badP h A D W) (ys.drop i)) ⟨_, _, _, _, rfl, rfl, rfl⟩ ?_ ?_
    · rintro i d δ n' ed ⟨v5, v6, v7, v8, en, rfl, hp⟩
      obtain rfl := en.symm
      obtain ⟨d, ed2, rfl⟩ := enumF_some ed
      obtain ⟨x, ex, rfl⟩ := strs_at ed2
      have hx := List.mem_of_getElem? ex
      have hi := (List.getElem?_eq_some_iff.mp ex).1
      have et := toldAt x hx
      rw [apart_at (bad := badP h A D W) ex] at hp
      walk_at "ds"
      rw [cutD_from (by rw [List.length_map]; omega), ← List.map_drop]
      have sub : ∀ y ∈ ys.drop (i + 1), y ∈ ys := fun y hy => List.mem_of_mem_drop hy
      generalize hr : ys.drop (i + 1) = r at hp sub
      refine forg (fun j δ n' => ∃ v8, n' = n ∧ δ = [some (DO.v (DV.ring h A)), some (DO.v (DV.d (numsD D))), some (DO.v (DV.d (numsD W))), some (DO.v (DV.d (PyData.list (List.map PyData.str ys)))), some (DO.m T), v5, some (DO.v (DV.d (PyData.int i))), some (DO.v (DV.d (PyData.str x))), v8, none] ∧ (r.take j).find? (badP h A D W x) = none) ⟨_, rfl, rfl, rfl⟩ ?_ ?_
      · rintro j d δ n' ed ⟨v8, en, rfl, hf⟩
        obtain rfl := en.symm
        obtain ⟨y, ey, rfl⟩ := strs_at ed
        have hy := sub y (List.mem_of_getElem? ey)
        have et2 := toldAt y hy
        walk_at "ds"
        refine lcg_map (fun _ => true) (intP fun day => decide (day ∈ dayOf h A D W y)) ?_ ?_ ?_
        · rw [List.length_map]
          have := List.length_filter_le (fun day => decide (starts h A D x day = numOf W x)) (intsL h)
          rw [ints_len] at this
          unfold dayOf daysL
          omega
        · rintro k d acc ed ha
          obtain ⟨day, e3, rfl⟩ := ints_at ed
          walk_at "ds"
          exact ⟨_, rfl, rfl, rfl, lc_yes ha ed rfl⟩
        · rw [filter_yes, ints_P]
          walk_at "ds"
          refine ite_b (fun e => ?_) (fun e => ?_)
          · have hb : badP h A D W x y = true := by
              have e : (!((dayOf h A D W x).map fun day => decide (day ∈ dayOf h A D W y)).any id) = true := e
              unfold badP meetB; rw [List.any_map] at e; exact e
            have hp2 : apartR (badP h A D W) (x :: r) = some (x, y) := by unfold apartR; rw [find_at ey hf hb]
            rw [dueP (hp.trans hp2)] at hR
            walk_at "ds"
            exact hR
          · have hb : badP h A D W x y = false := by
              have e : (!((dayOf h A D W x).map fun day => decide (day ∈ dayOf h A D W y)).any id) = false := e
              unfold badP meetB; rw [List.any_map] at e; exact e
            walk_at "ds"
            exact ⟨_, rfl, rfl, find_step ey hf hb⟩
      · rintro δ n' ⟨v8, en, rfl, hf⟩
        obtain rfl := en.symm
        rw [List.length_map, List.take_length] at hf
        have hp2 : apartR (badP h A D W) ys = apartR (badP h A D W) r := by rw [hp]; unfold apartR; rw [hf]; cases r <;> rfl
        exact ⟨_, _, _, _, rfl, rfl, hp2⟩
    rintro δ n' ⟨v5, v6, v7, v8, en, rfl, hp⟩
    obtain rfl := en.symm
    rw [show (enumF 0 (ys.map PyData.str)).length = ys.length by rw [enumF_length, List.length_map], List.drop_length] at hp
    have hp : apartR (badP h A D W) ys = none := hp
    obtain ⟨day0, b0, b1, g0⟩ := good_day z1 hf hp
    have hdue : dueD h A D W ys = .tuple [.str "yes", .int (firstDay h A D W ys)] := by unfold dueD; rw [hf]; simp only [hp]
    rw [hdue] at hR
    dsimp only
    walk_at "ds"
    refine ⟨fun m δ n' => ∃ (dy : Nat) (v5 : Option DO), n' = n ∧ δ = [some (DO.v (DV.ring h A)), some (DO.v (DV.d (numsD D))), some (DO.v (DV.d (numsD W))), some (DO.v (DV.d (PyData.list (List.map PyData.str ys)))), some (DO.m T), v5, v6, v7, v8, some (DO.v (DV.d (.int dy)))] ∧ (∀ j : Nat, j < dy → goodB h A D W ys j = false) ∧ (dy : Int) ≤ day0 ∧ m = (day0 - dy).toNat, ⟨_, 0, v5, rfl, rfl, fun j hj => absurd hj (Nat.not_lt_zero j), b0, rfl⟩, ?_⟩
    rintro m δ n' ⟨dy, v5, en, rfl, hj, hd, rfl⟩
    obtain rfl := en.symm
    walk_at "ds"
    refine lcg_map (fun _ => true) (strP fun x => decide ((dy : Int) ∈ dayOf h A D W x)) ?_ ?_ ?_
    · rw [List.length_map]; omega
    · rintro k d acc ed ha
      obtain ⟨x, ex, rfl⟩ := strs_at ed
      have et := toldAt x (List.mem_of_getElem? ex)
      walk_at "ds"
      exact ⟨_, rfl, rfl, rfl, lc_yes ha ed rfl⟩
    · rw [filter_yes, strs_P]
      walk_at "ds"
      have eg : ((ys.map fun x => decide ((dy : Int) ∈ dayOf h A D W x)).all id) = goodB h A D W ys dy := by rw [List.all_map]; rfl
      rw [eg]
      refine ite_nb (fun e => ?_) (fun e => ?_)
      · walk_at "ds"
        have hlt : (dy : Int) < day0 := by
          rcases Int.lt_or_eq_of_le hd with z | z
          · exact z
          · rw [z, g0] at e; cases e
        refine ⟨(day0 - (dy + 1 : Nat)).toNat, by omega, dy + 1, none, rfl, rfl, fun j hj2 => ?_, by omega, rfl⟩
        rcases Nat.lt_or_eq_of_le (Nat.le_of_lt_succ hj2) with z | z
        · exact hj j z
        · rw [z]; exact e
      · walk_at "ds"
        rw [first_of (by omega) e hj] at hR
        exact hR


theorem ok_all_startX {P : Program} {w : World} {K : PySem.W.Frag} {mg : Str → Option Value} {base : Heap} (T : Bn mg)
    {C : Addr} (RC : RingC K mg C)
    (D_is_wishes : Df P w K mg base CX0 3 "is_wishes" ["ring", "thing"] (spW C W_is_wishes))
    {CB1 CB2 : Addr} (C_check_driftsX : Df P w K mg base (L2.CX P w) 4 "check_drifts" ["ring", "drifts"] (sp_check_driftsX K C CB1)) (Z_BadWishes : Rz P w K mg base "BadWishes" CB2 "wishes")
    {f : Addr} {fd : FuncData} (F : FunD K "all_start" "all_start" (defArgs s_all_start) (defBody s_all_start) (defScope s_all_start) [] [] f fd) :
    FnOk P w K mg base (L2.CX P w) 5 f fd ["ring", "drifts", "wishes"] (sp_all_startX K C CB1 CB2) := by
  refine F.ok sc_all_start (fun vs H Q E h => ?_) (fun cdv A outer s H vs Q E hr h => ?_)
  · obtain ⟨r, h, A, v, u, d, e, rfl, _⟩ := h
    rfl
  · obtain ⟨r, h, A, v, u, d, e, rfl, hr1, hA, hv, hu, hw, q⟩ := h
    refine ⟨_, (pss_cons (ps_expr (pe_dfX (E := E) C_check_driftsX hr (takes_of rfl rfl rfl rfl) (pa_cons (pv 0) (pa_cons (pv 1) pa_nil))))
    (pss_cons (ps_if (pt_not (pt_val (pe_df D_is_wishes hr (pa_cons (pv 0) (pa_cons (pv 2) pa_nil))))) (pss_one (ps_raiseX rfl Z_BadWishes hr (takes_of rfl rfl rfl rfl) (pa_cons (pv 2) pa_nil))) pss_nil)
    (pss_cons ps_never
    (pss_cons ps_never
    (pss_cons ps_never
    (pss_cons ps_never
    (pss_cons ps_never
    (pss_cons ps_never
    (pss_one ps_never))))))))), ?_⟩
    walk_at "go"
    refine ⟨r, h, A, v, d, rfl, hr1, hA, hv, fun H1 g1 => ⟨fun ed => ?_, fun ed => (q H1 g1).1 ed⟩⟩
    obtain ⟨wk, wf⟩ := hw ed
    walk_at "st"
    refine spW_in (xs := [.ring h A, .d e]) (R := fun x _ => x = .d (.bool (isWishesB h A e))) (.cons ⟨r, rfl, hr1.nx g1⟩ (.cons (hu.nx g1) .nil)) ⟨h, A, e, rfl, hA, wk, rfl⟩ (fun w x H' g sw ⟨_, ex⟩ => ?_)
    subst ex
    rw [wf] at sw
    cases (show Im [] H' w (.bool false) from sw)
    refine ⟨_, rfl, ?_⟩
    refine iteT ?_
    walk_at "st"
    exact mkO_end ((q H' (g1.trans g)).2 ed)


theorem ok_Ld_drifts {P : Program} {w : World} {K : PySem.W.Frag} {mg : Str → Option Value} {base : Heap} (T : Bn mg) {C : Addr}
    (RC : RingC K mg C)
    (D_Lpick : Df P w K mg base CX0 2 "_law_pick" ["spring", "some"] (spW C W_Lpick))
    (D_Ldraw : Df P w K mg base CX0 1 "_law_draw" ["spring", "many"] (spW C W_Ldraw))
    (D_Lmixed : Df P w K mg base CX0 2 "_law_mixed" ["spring", "some"] (spW C W_Lmixed)) 
    {f : Addr} {fd : FuncData} (F : FunD K "_law_d_drifts" "_law_d_drifts" (defArgs s_Ld_drifts) (defBody s_Ld_drifts) (defScope s_Ld_drifts) [] [] f fd) :
    FnOk P w K mg base CX0 3 f fd ["spring", "hours", "arcs"] (spW C W_Ld_drifts) := by
  apply okW2 F sc_Ld_drifts
  case len =>
    intro xs n R h
    obtain ⟨h, A, rfl, _⟩ := h
    rfl
  case hp =>
    intro cdv A outer s H E hr
    exact (pss_cons (ps_set (i := 3) sc_Ld_drifts.nd rfl (Or.inr rfl) (pe_df D_Lpick hr (pa_cons (pv 0) (pa_cons (pe_lst (pa_cons (pe_lst (pa_cons pe_int (pa_cons pe_int pa_nil))) (pa_cons (pe_lst (pa_cons pe_int (pa_cons (pe_op op_fdiv (pv 1) pe_int) (pa_cons (pe_op op_fdiv (pv 1) pe_int) pa_nil)))) (pa_cons (pe_lst (pa_cons (pe_op op_sub (pv 1) pe_int) (pa_cons (pe_op op_mod pe_int (pv 1)) pa_nil))) (pa_cons (pe_lst (pa_cons (pe_df D_Ldraw hr (pa_cons (pv 0) (pa_cons (pv 1) pa_nil))) (pa_cons pe_int pa_nil))) pa_nil))))) pa_nil))))
    (pss_one (ps_ret (pe_callTy (kdictP K) (by rfl) T.dict (by decide +kernel) (pa_cons (pe_lc (own := [("name", 4)]) (tt := tYes) rfl sc_Ld_drifts.nd (ki_list K (pe_df D_Lmixed hr (pa_cons (pv 0) (pa_cons (pe_callB (call_sortedD rfl) (by rfl) T.sorted (by decide +kernel) (pa_cons (pv 2) pa_nil)) pa_nil)))) (blkOk_by (N := n_Ld_drifts) (sc := defScope s_Ld_drifts) (by decide +kernel)) (fun _ _ _ _ _ => (pg_name (i := 4) sc_Ld_drifts.nd rfl (Or.inl rfl))) (fun _ _ _ _ _ => pts_nil) (fun _ _ _ _ _ => (pe_tup (pa_cons (pv 4) (pa_cons (pe_op op_mod (pe_df D_Lpick hr (pa_cons (pv 0) (pa_cons (pe_op (kcatR K) (pv 3) (pe_lst (pa_cons (pe_df D_Ldraw hr (pa_cons (pv 0) (pa_cons (pv 1) pa_nil))) pa_nil))) pa_nil))) (pv 1)) pa_nil))))) pa_nil)))))
  case hd => walk_at "td"
  case hs =>
    rintro xs n R ⟨h, A, rfl, hn, ra, hR⟩
    have z1 := ra.h1
    have z2 := ra.h2
    walk_at "dgo"
    refine ⟨h, rfl, by omega, by omega, by omega, fun d0 d1 d2 => ?_⟩
    walk_at "ds"
    refine ⟨_, rfl, by omega, by simp, by simp, fun menu hm => ?_⟩
    obtain ⟨ns, rfl, ln⟩ : ∃ ns : List Int, menu = .list (ns.map .int) ∧ ns.length ≤ 3 := by
      simp only [List.mem_cons, List.not_mem_nil, or_false] at hm
      rcases hm with e | e | e | e <;> rw [e]
      · exact ⟨[0, 1], rfl, by simp⟩
      · exact ⟨[0, h / 2, h / 3], rfl, by simp⟩
      · exact ⟨[h - 1, 1 % h], rfl, by simp⟩
      · exact ⟨[d0, 0], rfl, by simp⟩
    walk_at "ds"
    refine w_sortA ra.ln fun ys py sy ly => ?_
    walk_at "ds"
    refine ⟨ys.map .str, rfl, by omega, by rw [List.length_map]; omega, fun es pe => ?_⟩
    obtain ⟨zs, pz, rfl⟩ := perm_of_map pe
    rw [List.length_map]
    have lz : zs.length ≤ 40 := by rw [pz.length_eq]; exact ly
    have nz : zs.Nodup := (pz.trans py).nodup_iff.mpr ra.ok.nd
    walk_at "ds"
    generalize hn0 : n + 1 + 1 + ys.length = n0
    have hn1 : n ≤ n0 := by omega
    have hn2 : n0 ≤ n + 42 := by omega
    refine lcg (fun i acc n' => ∃ D : Nums, D.map (·.1) = zs.take i ∧ acc = D.map (fun p => .tuple [.str p.1, .int p.2]) ∧ (∀ p ∈ D, 0 ≤ p.2 ∧ p.2 < h) ∧ n0 ≤ n' ∧ n' ≤ n0 + 2 * i) ⟨[], rfl, rfl, by simp, Nat.le_refl _, by omega⟩ ?_ ?_
    · rintro i d acc n' ed ⟨D, e1, rfl, hD, b1, b2⟩
      obtain ⟨x, ex, rfl⟩ := strs_at ed
      have hi := (List.getElem?_eq_some_iff.mp ex).1
      have lD : D.length ≤ 40 := by have := congrArg List.length e1; rw [List.length_map, List.length_take] at this; omega
      refine ⟨by rw [List.length_map]; omega, ?_⟩
      walk_at "ds"
      refine ⟨h, rfl, by omega, by omega, by omega, fun e0 e1' e2 => ?_⟩
      walk_at "ds"
      refine ⟨_, rfl, by omega, by simp, by simp; omega, fun v hv => ?_⟩
      obtain ⟨j, rfl⟩ : ∃ j : Int, v = .int j := by
        rcases List.mem_append.mp hv with z | z
        · obtain ⟨j, _, rfl⟩ := List.mem_map.mp z; exact ⟨j, rfl⟩
        · exact ⟨_, List.mem_singleton.mp z⟩
      walk_at "ds"
      refine ⟨_, rfl, rfl, D ++ [(x, j % h)], ?_, ?_, ?_, by omega, by omega⟩
      · rw [List.map_append, e1, List.take_add_one, ex]; rfl
      · rw [List.map_append]; rfl
      · intro p hp
        rcases List.mem_append.mp hp with z | z
        · exact hD p z
        · rw [List.mem_singleton.mp z]; exact ⟨Int.emod_nonneg _ (by omega), Int.emod_lt_of_pos _ (by omega)⟩
    · rintro acc n' ⟨D, e1, rfl, hD, b1, b2⟩
      rw [List.length_map] at e1 b2
      rw [List.take_length] at e1
      walk_at "ds"
      refine nums_pairs (by rw [e1]; exact nz) ?_
      exact hR D n' ⟨by rw [e1]; exact pz.trans py, hD⟩ (by omega) (by omega)


theorem ok_Ld_days {P : Program} {w : World} {K : PySem.W.Frag} {mg : Str → Option Value} {base : Heap} (T : Bn mg) {C : Addr}
    (RC : RingC K mg C) 
    {f : Addr} {fd : FuncData} (F : FunD K "_law_d_days" "_law_d_days" (defArgs s_Ld_days) (defBody s_Ld_days) (defScope s_Ld_days) [] [] f fd) :
    FnOk P w K mg base CX0 1 f fd ["hours", "arcs", "drifts", "name", "hour"] (spW C W_Ld_days) := by
  apply okW2 F sc_Ld_days
  case len =>
    intro xs n R h
    obtain ⟨h, A, D, x, w, rfl, _⟩ := h
    rfl
  case hp =>
    intro cdv A outer s H E hr
    exact (pss_one (ps_ret (pe_lc (own := [("day", 5)]) rfl sc_Ld_days.nd (pi_range1 (by rfl) T.range (pa_cons (pv 0) pa_nil)) (blkOk_by (N := n_Ld_days) (sc := defScope s_Ld_days) (by decide +kernel)) (fun _ _ _ _ _ => (pg_name (i := 5) sc_Ld_days.nd rfl (Or.inl rfl))) (fun _ _ _ _ _ => pts_one (pt_cmpR op_eq (pe_op op_mod (pe_op op_add (pe_ix (kx_tup K) (pe_dget (hu_of hr) (pv 1) (pv 3) (fun _ _ => rfl)) pe_int (fun _ _ => rfl)) (pe_op op_mul (pv 5) (pe_dget (hu_of hr) (pv 2) (pv 3) (fun _ _ => rfl)))) (pv 0)) (pv 4) (nomark _))) (fun _ _ _ _ _ => (pv 5)))))
  case hd => walk_at "td"
  case hs =>
    rintro xs n R ⟨h, A, D, x, w, rfl, ra, dr, hx, hR⟩
    have z1 := ra.h1
    have z2 := ra.h2
    have z3 := dr.at_ hx
    have z4 := ra.ok.st _ (arcOf_in hx)
    have ea : lookK (kvsD A) (.inr x) = some (arcD (arcOf A x)) := by rw [look_arcs, if_pos hx]
    have el : lookK (numsKv D) (.inr x) = some (.int (numOf D x)) := by rw [look_nums, if_pos (dr.mem hx)]
    walk_at "dgo"
    refine lcg_map (numP fun day => decide (starts h A D x day = w)) id ?_ ?_ ?_
    · rw [intsFrom_length]; omega
    · rintro i d acc ed ha
      obtain ⟨hi, rfl⟩ := intsFrom_some ed
      walk_at "ds"
      refine ite_d (fun e => ?_) (fun e => ?_)
      · walk_at "ds"
        exact ⟨_, rfl, rfl, rfl, lc_yes ha ed (decide_eq_true e)⟩
      · exact ⟨rfl, rfl, lc_no ha ed (decide_eq_false e)⟩
    · rw [ints_D, filter_ints]
      exact hR


theorem ok_Ld_due {P : Program} {w : World} {K : PySem.W.Frag} {mg : Str → Option Value} {base : Heap} (T : Bn mg) {C : Addr}
    (RC : RingC K mg C)
    (D_Ld_days : Df P w K mg base CX0 1 "_law_d_days" ["hours", "arcs", "drifts", "name", "hour"] (spW C W_Ld_days)) 
    {f : Addr} {fd : FuncData} (F : FunD K "_law_d_due" "_law_d_due" (defArgs s_Ld_due) (defBody s_Ld_due) (defScope s_Ld_due) [] [] f fd) :
    FnOk P w K mg base CX0 2 f fd ["hours", "arcs", "drifts", "wishes"] (spW C W_Ld_due) := by
  apply okW2 F sc_Ld_due
  case len =>
    intro xs n R h
    obtain ⟨h, A, D, W, rfl, _⟩ := h
    rfl
  case hp =>
    intro cdv A outer s H E hr
    exact (pss_cons (ps_set (i := 4) sc_Ld_due.nd rfl (Or.inr rfl) (pe_callB (call_sortedD rfl) (by rfl) T.sorted (by decide +kernel) (pa_cons (pv 3) pa_nil)))
    (pss_cons (ps_set (i := 5) sc_Ld_due.nd rfl (Or.inr rfl) (pe_callTy (kdictP K) (by rfl) T.dict (by decide +kernel) (pa_cons (pe_lc (own := [("name", 6)]) (tt := tYes) rfl sc_Ld_due.nd (ki_list K (pv 4)) (blkOk_by (N := n_Ld_due) (sc := defScope s_Ld_due) (by decide +kernel)) (fun _ _ _ _ _ => (pg_name (i := 6) sc_Ld_due.nd rfl (Or.inl rfl))) (fun _ _ _ _ _ => pts_nil) (fun _ _ _ _ _ => (pe_tup (pa_cons (pv 6) (pa_cons (pe_df D_Ld_days hr (pa_cons (pv 0) (pa_cons (pv 1) (pa_cons (pv 2) (pa_cons (pv 6) (pa_cons (pe_dget (hu_of hr) (pv 3) (pv 6) (fun _ _ => rfl)) pa_nil)))))) pa_nil))))) pa_nil)))
    (pss_cons (ps_for PassesOwn.never rfl (ki_list K (pv 4)) (pg_name (i := 6) sc_Ld_due.nd rfl (Or.inl rfl))
      (pss_one (ps_if (pt_not (kt_truth K (pe_dget (hu_of hr) (pv 5) (pv 6) (fun _ _ => rfl)) (by intro _; rfl))) (pss_one (ps_ret (pe_tup (pa_cons pe_str (pa_cons (pv 6) pa_nil))))) pss_nil)))
    (pss_cons (ps_for PassesOwn.never rfl (ki_enum K (by rfl) T.enumerate (pa_cons (pv 4) pa_nil)) (kgtup (n := 2) K rfl (pgs_cons (pg_name (i := 7) sc_Ld_due.nd rfl (Or.inl rfl)) (pgs_cons (pg_name (i := 8) sc_Ld_due.nd rfl (Or.inl rfl)) pgs_nil)))
      (pss_one (ps_for PassesOwn.never rfl (ki_list K (pe_slice (ksl_list K) (pv 4) (po_some (pe_op op_add (pv 7) pe_int)) po_none)) (pg_name (i := 9) sc_Ld_due.nd rfl (Or.inr rfl))
      (pss_one (ps_if (pt_not (kt_truth K (pe_lc (own := [("day", 11)]) rfl sc_Ld_due.nd (ki_list K (pe_dget (hu_of hr) (pv 5) (pv 8) (fun _ _ => rfl))) (blkOk_by (N := n_Ld_due) (sc := defScope s_Ld_due) (by decide +kernel)) (fun _ _ _ _ _ => (pg_name (i := 11) sc_Ld_due.nd rfl (Or.inl rfl))) (fun _ _ _ _ _ => pts_one (pt_cmpR (kin_seq K) (pv 11) (pe_dget (hu_of hr) (pv 5) (pv 9) (fun _ _ => rfl)) (by rfl))) (fun _ _ _ _ _ => (pv 11))) (by intro _; rfl))) (pss_one (ps_ret (pe_tup (pa_cons pe_str (pa_cons (pv 8) (pa_cons (pv 9) pa_nil)))))) pss_nil)))))
    (pss_cons (ps_setLc (i := 10) (own := [("day", 11)]) rfl sc_Ld_due.nd rfl rfl (sw_true rfl rfl rfl (by decide +kernel)) (pi_range1 (by rfl) T.range (pa_cons (pv 0) pa_nil)) (blkOk_by (N := n_Ld_due) (sc := defScope s_Ld_due) (by decide +kernel)) (fun _ _ _ _ _ => (pg_name (i := 11) sc_Ld_due.nd rfl (Or.inr rfl))) (fun _ _ _ _ _ => pts_one (pt_val (pe_callB (kall K) (by rfl) T.all (by decide +kernel) (pa_cons (pe_lc (own := [("name", 6)]) (tt := tYes) rfl sc_Ld_due.nd (ki_list K (pv 4)) (blkOk_by (N := n_Ld_due) (by rfl)) (fun _ _ _ _ _ => (pg_name (i := 6) sc_Ld_due.nd rfl (Or.inl rfl))) (fun _ _ _ _ _ => pts_nil) (fun _ _ _ _ _ => (pe_cmpR (kin_seq K) (pv 11) (pe_dget (hu_of hr) (pv 5) (pv 6) (fun _ _ => rfl)) (by rfl)))) pa_nil)))) (fun _ _ _ _ _ => (pv 11)))
    (pss_one (ps_ret (pe_ifExp (kt_truth K (pv 10) (by intro _; rfl)) (pe_tup (pa_cons pe_str (pa_cons (pe_ix (kx_list K) (pv 10) pe_int (fun _ _ => rfl)) pa_nil))) pe_non))))))))
  case hd => walk_at "td"
  case hs =>
    rintro xs n R ⟨h, A, D, W, rfl, ra, dr, wi, hR⟩
    have z1 := ra.h1
    have z2 := ra.h2
    walk_at "dgo"
    refine ⟨numsKv W, W.map (·.1), rfl, nums_keys W, by rw [List.length_map]; have := wi.ln; omega, fun ys py sy => ?_⟩
    have nys : ys.Nodup := py.nodup_iff.mpr wi.nd
    have lys : ys.length ≤ 40 := by rw [py.length_eq, List.length_map]; exact wi.ln
    have inA : ∀ x ∈ ys, x ∈ A.map (·.1) := fun x hx => by
      obtain ⟨q, hq, rfl⟩ := List.mem_map.mp (py.mem_iff.mp hx)
      exact wi.inA q hq
    have elW : ∀ x ∈ ys, lookK (numsKv W) (.inr x) = some (.int (numOf W x)) := fun x hx => by rw [look_nums, if_pos (py.mem_iff.mp hx)]
    have toldAt : ∀ x ∈ ys, lookK (ys.map fun x => (PyData.str x, PyData.list ((dayOf h A D W x).map .int))) (.inr x) = some (.list ((dayOf h A D W x).map .int)) := fun x hx => by rw [look_map, if_pos hx]
    walk_at "ds"
    refine lcg_map (fun _ => true) (pairP fun x => .list ((dayOf h A D W x).map .int)) ?_ ?_ ?_
    · rw [List.length_map]; omega
    · rintro i d acc ed ha
      obtain ⟨x, ex, rfl⟩ := strs_at ed
      have hx := List.mem_of_getElem? ex
      have ew := elW x hx
      walk_at "ds"
      refine ⟨h, A, D, x, numOf W x, rfl, ra, dr, inA x hx, ?_⟩
      walk_at "ds"
      exact ⟨_, rfl, rfl, rfl, lc_yes ha ed rfl⟩
    rw [filter_yes, pairs_P]
    walk_at "ds"
    refine ⟨ys.map fun x => (PyData.str x, PyData.list ((dayOf h A D W x).map .int)), rfl, fun p hp => ?_, ?_, ?_⟩
    · obtain ⟨x, _, rfl⟩ := List.mem_map.mp hp
      exact ⟨.inr x, rfl⟩
    · rw [List.map_map]
      exact nodup_str nys
    generalize hT : (ys.map fun x => (PyData.str x, PyData.list ((dayOf h A D W x).map .int))) = T at toldAt
    walk_at "ds"
    have hR := hR ys py sy
    refine forg (fun i δ n' => ∃ v6, n' = n ∧ δ = [some (DO.v (DV.d (PyData.int h))), some (DO.v (DV.d (arcsD A))), some (DO.v (DV.d (numsD D))), some (DO.v (DV.d (numsD W))), some (DO.v (DV.d (PyData.list (List.map PyData.str ys)))), some (DO.m T), v6, none, none, none, none, none] ∧ (ys.take i).find? (fun x => (dayOf h A D W x).isEmpty) = none) ⟨_, rfl, rfl, rfl⟩ ?_ ?_
    · rintro i d δ n' ed ⟨v6, en, rfl, hf⟩
      obtain rfl := en.symm
      obtain ⟨x, ex, rfl⟩ := strs_at ed
      have hx := List.mem_of_getElem? ex
      have et := toldAt x hx
      walk_at "ds"
      cases eq : dayOf h A D W x with
      | nil =>
        have : dueD h A D W ys = .tuple [.str "alone", .str x] := by unfold dueD; rw [find_at ex hf (by show (dayOf h A D W x).isEmpty = true; rw [eq]; rfl)]
        rw [this] at hR
        refine ite_t rfl ?_
        walk_at "ds"
        exact hR
      | cons a r =>
        refine ite_f rfl ?_
        walk_at "ds"
        exact ⟨_, rfl, rfl, find_step ex hf (by show (dayOf h A D W x).isEmpty = false; rw [eq]; rfl)⟩
    rintro δ n' ⟨v6, en, rfl, hf⟩
    obtain rfl := en.symm
    rw [List.length_map, List.take_length] at hf
    walk_at "ds"
    have dueP : ∀ {p}, apartR (badP h A D W) ys = some p → dueD h A D W ys = .tuple [.str "apart", .str p.1, .str p.2] := fun {p} e => by unfold dueD; rw [hf]; simp only [e]
    refine forg (fun i δ n' => ∃ v6 v7 v8 v9, n' = n ∧ δ = [some (DO.v (DV.d (PyData.int h))), some (DO.v (DV.d (arcsD A))), some (DO.v (DV.d (numsD D))), some (DO.v (DV.d (numsD W))), some (DO.v (DV.d (PyData.list (List.map PyData.str ys)))), some (DO.m T), v6, v7, v8, v9, none, none] ∧ apartR (badP h A D W) ys = apartR (badP h A D W) (ys.drop i)) ⟨_, _, _, _, rfl, rfl, rfl⟩ ?_ ?_
    · rintro i d δ n' ed ⟨v6, v7, v8, v9, en, rfl, hp⟩
      obtain rfl := en.symm
      obtain ⟨d, ed2, rfl⟩ := enumF_some ed
      obtain ⟨x, ex, rfl⟩ := strs_at ed2
      have hx := List.mem_of_getElem? ex
      have hi := (List.getElem?_eq_some_iff.mp ex).1
      have et := toldAt x hx
      rw [apart_at (bad := badP h A D W) ex] at hp
      walk_at "ds"
      rw [cutD_from (by rw [List.length_map]; omega), ← List.map_drop]
      have sub : ∀ y ∈ ys.drop (i + 1), y ∈ ys := fun y hy => List.mem_of_mem_drop hy
      generalize hr : ys.drop (i + 1) = r at hp sub
      refine forg (fun j δ n' => ∃ v9, n' = n ∧ δ = [some (DO.v (DV.d (PyData.int h))), some (DO.v (DV.d (arcsD A))), some (DO.v (DV.d (numsD D))), some (DO.v (DV.d (numsD W))), some (DO.v (DV.d (PyData.list (List.map PyData.str ys)))), some (DO.m T), v6, some (DO.v (DV.d (PyData.int i))), some (DO.v (DV.d (PyData.str x))), v9, none, none] ∧ (r.take j).find? (badP h A D W x) = none) ⟨_, rfl, rfl, rfl⟩ ?_ ?_
      · rintro j d δ n' ed ⟨v9, en, rfl, hf⟩
        obtain rfl := en.symm
        obtain ⟨y, ey, rfl⟩ := strs_at ed
        have hy := sub y (List.mem_of_getElem? ey)
        have et2 := toldAt y hy
        walk_at "ds"
        refine lcg_map (numP fun day => decide (day ∈ dayOf h A D W y)) id ?_ ?_ ?_
        · rw [List.length_map]
          have := List.length_filter_le (fun day => decide (starts h A D x day = numOf W x)) (intsL h)
          rw [ints_len] at this
          unfold dayOf daysL
          omega
        · rintro k d acc ed ha
          obtain ⟨day, e3, rfl⟩ := ints_at ed
          walk_at "ds"
          refine ite_d (fun e => ?_) (fun e => ?_)
          · walk_at "ds"
            exact ⟨_, rfl, rfl, rfl, lc_yes ha ed (decide_eq_true e)⟩
          · exact ⟨rfl, rfl, lc_no ha ed (decide_eq_false e)⟩
        · rw [filter_ints]
          walk_at "ds"
          have hb : badP h A D W x y = ((dayOf h A D W x).filter fun day => decide (day ∈ dayOf h A D W y)).isEmpty := by
            unfold badP meetB
            rw [Bool.eq_iff_iff]
            simp
          cases eq : (dayOf h A D W x).filter fun day => decide (day ∈ dayOf h A D W y) with
          | nil =>
            rw [eq] at hb
            have hp2 : apartR (badP h A D W) (x :: r) = some (x, y) := by unfold apartR; rw [find_at ey hf hb]
            rw [dueP (hp.trans hp2)] at hR
            refine ite_t rfl ?_
            walk_at "ds"
            exact hR
          | cons a q =>
            rw [eq] at hb
            refine ite_f rfl ?_
            walk_at "ds"
            exact ⟨_, rfl, rfl, find_step ey hf hb⟩
      · rintro δ n' ⟨v9, en, rfl, hf⟩
        obtain rfl := en.symm
        rw [List.length_map, List.take_length] at hf
        have hp2 : apartR (badP h A D W) ys = apartR (badP h A D W) r := by rw [hp]; unfold apartR; rw [hf]; cases r <;> rfl
        exact ⟨_, _, _, _, rfl, rfl, hp2⟩
    rintro δ n' ⟨v6, v7, v8, v9, en, rfl, hp⟩
    obtain rfl := en.symm
    rw [show (enumF 0 (ys.map PyData.str)).length = ys.length by rw [enumF_length, List.length_map], List.drop_length] at hp
    have hp : apartR (badP h A D W) ys = none := hp
    obtain ⟨day0, b0, b1, g0⟩ := good_day z1 hf hp
    have hdue : dueD h A D W ys = .tuple [.str "yes", .int (firstDay h A D W ys)] := by unfold dueD; rw [hf]; simp only [hp]
    rw [hdue] at hR
    dsimp only
    walk_at "ds"
    refine lcg_mapZ (fun δ => ∃ v6, δ = [some (DO.v (DV.d (PyData.int h))), some (DO.v (DV.d (arcsD A))), some (DO.v (DV.d (numsD D))), some (DO.v (DV.d (numsD W))), some (DO.v (DV.d (PyData.list (List.map PyData.str ys)))), some (DO.m T), v6, v7, v8, v9, none, none]) (numP (goodB h A D W ys)) id ⟨_, rfl⟩ ?_ ?_ ?_
    · rw [intsFrom_length]; omega
    · rintro δ i d acc ⟨v6, rfl⟩ ed ha
      obtain ⟨hi, rfl⟩ := intsFrom_some ed
      walk_at "ds"
      refine lcg_map (fun _ => true) (strP fun x => decide ((0 + (i : Int)) ∈ dayOf h A D W x)) ?_ ?_ ?_
      · rw [List.length_map]; omega
      · rintro k d acc ed ha
        obtain ⟨x, ex, rfl⟩ := strs_at ed
        have et := toldAt x (List.mem_of_getElem? ex)
        walk_at "ds"
        exact ⟨_, rfl, rfl, rfl, lc_yes ha ed rfl⟩
      · rw [filter_yes, strs_P]
        walk_at "ds"
        have eg : ((ys.map fun x => decide ((0 + (i : Int)) ∈ dayOf h A D W x)).all id) = goodB h A D W ys (0 + (i : Int)) := by rw [List.all_map]; rfl
        rw [eg]
        refine ite_b (fun e => ?_) (fun e => ?_)
        · walk_at "ds"
          exact ⟨_, rfl, ⟨_, rfl⟩, rfl, lc_yes ha ed e⟩
        · exact ⟨⟨_, rfl⟩, rfl, lc_no ha ed e⟩
    · rintro δ ⟨v6, rfl⟩
      rw [ints_D, filter_ints]
      walk_at "ds"
      have hh : ((intsL h).filter (goodB h A D W ys)).head? = some (firstDay h A D W ys) := by
        rw [List.head?_filter]
        unfold firstDay
        have : ((intsL h).find? (goodB h A D W ys)).isSome = true := List.find?_isSome.mpr ⟨day0, mem_ints.mpr ⟨b0, b1⟩, g0⟩
        obtain ⟨v, ev⟩ := Option.isSome_iff_exists.mp this
        rw [ev]; rfl
      cases eq : (intsL h).filter (goodB h A D W ys) with
      | nil => rw [eq] at hh; cases hh
      | cons a q =>
        rw [eq] at hh
        cases Option.some.inj hh
        refine ite_t rfl ?_
        walk_at "ds"
        refine w_ixL atI_hd ?_
        walk_at "ds"
        exact hR


theorem ok_Ld_wishes {P : Program} {w : World} {K : PySem.W.Frag} {mg : Str → Option Value} {base : Heap} (T : Bn mg) {C : Addr}
    (RC : RingC K mg C)
    (D_Ldraw : Df P w K mg base CX0 1 "_law_draw" ["spring", "many"] (spW C W_Ldraw))
    (D_Lmixed : Df P w K mg base CX0 2 "_law_mixed" ["spring", "some"] (spW C W_Lmixed))
    (D_Lpick : Df P w K mg base CX0 2 "_law_pick" ["spring", "some"] (spW C W_Lpick)) 
    {f : Addr} {fd : FuncData} (F : FunD K "_law_d_wishes" "_law_d_wishes" (defArgs s_Ld_wishes) (defBody s_Ld_wishes) (defScope s_Ld_wishes) [] [] f fd) :
    FnOk P w K mg base CX0 3 f fd ["spring", "hours", "arcs", "drifts"] (spW C W_Ld_wishes) := by
  apply okW2 F sc_Ld_wishes
  case len =>
    intro xs n R h
    obtain ⟨h, A, D, rfl, _⟩ := h
    rfl
  case hp =>
    intro cdv A outer s H E hr
    exact (pss_cons (ps_asg (pe_tup (pa_cons (pe_lc (own := [("name", 7)]) rfl sc_Ld_wishes.nd (ki_list K (pe_callB (call_sortedD rfl) (by rfl) T.sorted (by decide +kernel) (pa_cons (pv 2) pa_nil))) (blkOk_by (N := n_Ld_wishes) (sc := defScope s_Ld_wishes) (by decide +kernel)) (fun _ _ _ _ _ => (pg_name (i := 7) sc_Ld_wishes.nd rfl (Or.inl rfl))) (fun _ _ _ _ _ => pts_one (pt_cmpR op_gt (pe_df D_Ldraw hr (pa_cons (pv 0) (pa_cons pe_int pa_nil))) pe_int (nomark _))) (fun _ _ _ _ _ => (pv 7))) (pa_cons (pe_df D_Ldraw hr (pa_cons (pv 0) (pa_cons (pv 1) pa_nil))) pa_nil))) (kgtup (n := 2) K rfl (pgs_cons (pg_name (i := 4) sc_Ld_wishes.nd rfl (Or.inl rfl)) (pgs_cons (pg_name (i := 5) sc_Ld_wishes.nd rfl (Or.inr rfl)) pgs_nil))))
    (pss_cons (ps_set (i := 6) sc_Ld_wishes.nd rfl (Or.inl rfl) (pe_callTy (kdictP K) (by rfl) T.dict (by decide +kernel) (pa_cons (pe_lc (own := [("name", 7)]) (tt := tYes) rfl sc_Ld_wishes.nd (ki_list K (pe_df D_Lmixed hr (pa_cons (pv 0) (pa_cons (pv 4) pa_nil)))) (blkOk_by (N := n_Ld_wishes) (sc := defScope s_Ld_wishes) (by decide +kernel)) (fun _ _ _ _ _ => (pg_name (i := 7) sc_Ld_wishes.nd rfl (Or.inl rfl))) (fun _ _ _ _ _ => pts_nil) (fun _ _ _ _ _ => (pe_tup (pa_cons (pv 7) (pa_cons (pe_op op_mod (pe_op op_add (pe_ix (kx_tup K) (pe_dget (hu_of hr) (pv 2) (pv 7) (fun _ _ => rfl)) pe_int (fun _ _ => rfl)) (pe_op op_mul (pv 5) (pe_dget (hu_of hr) (pv 3) (pv 7) (fun _ _ => rfl)))) (pv 1)) pa_nil))))) pa_nil)))
    (pss_cons (ps_if (PW.pt (pw_and (kt_truth K (pv 6) (by intro _; rfl)) (pw_and1 (pt_cmpR op_eq (pe_df D_Ldraw hr (pa_cons (pv 0) (pa_cons pe_int pa_nil))) pe_int (nomark _))))) (pss_one (ps_dput (hu_of hr) (pv 6) (pe_df D_Lpick hr (pa_cons (pv 0) (pa_cons (pv 4) pa_nil))) (pe_df D_Ldraw hr (pa_cons (pv 0) (pa_cons (pv 1) pa_nil))) rfl)) pss_nil)
    (pss_one (ps_ret (pv 6))))))
  case hd => walk_at "td"
  case hs =>
    rintro xs n R ⟨h, A, D, rfl, hn, ra, dr, hR⟩
    have z1 := ra.h1
    have z2 := ra.h2
    walk_at "dgo"
    refine w_sortA ra.ln fun ys py sy ly => ?_
    walk_at "ds"
    refine lcg (fun i acc n' => ∃ ss : List Str, acc = ss.map .str ∧ ss.Sublist (ys.take i) ∧ n ≤ n' ∧ n' ≤ n + i) ⟨[], rfl, List.nil_sublist _, Nat.le_refl _, by omega⟩ ?_ ?_
    · rintro i d acc n' ed ⟨ss, rfl, sb, b1, b2⟩
      obtain ⟨x, ex, rfl⟩ := strs_at ed
      have hi := (List.getElem?_eq_some_iff.mp ex).1
      have ls := sb.length_le
      rw [List.length_take] at ls
      refine ⟨by rw [List.length_map]; omega, ?_⟩
      walk_at "ds"
      refine ⟨3, rfl, by omega, by omega, by omega, fun e0 e1' e2 => ?_⟩
      walk_at "ds"
      refine ite_b (fun _ => ?_) (fun _ => ?_)
      · walk_at "ds"
        refine ⟨_, rfl, rfl, ss ++ [x], by rw [List.map_append]; rfl, ?_, by omega, by omega⟩
        rw [List.take_add_one, ex]
        exact sb.append (List.Sublist.refl _)
      · refine ⟨rfl, ss, rfl, ?_, by omega, by omega⟩
        rw [List.take_add_one]
        exact sb.trans (List.sublist_append_left _ _)
    rintro acc n1 ⟨ss, rfl, sb, b1, b2⟩
    rw [List.length_map] at sb b2
    rw [List.take_length] at sb
    have ls := sb.length_le
    walk_at "ds"
    refine ⟨h, rfl, by omega, by omega, by omega, fun day d1 d2 => ?_⟩
    walk_at "ds"
    refine ⟨ss.map .str, rfl, by omega, by rw [List.length_map]; omega, fun es pe => ?_⟩
    obtain ⟨zs, pz, rfl⟩ := perm_of_map pe
    rw [List.length_map]
    have lz : zs.length ≤ 40 := by rw [pz.length_eq]; omega
    have nz : zs.Nodup := pz.nodup_iff.mpr (sb.nodup (py.nodup_iff.mpr ra.ok.nd))
    have inA : ∀ x ∈ zs, x ∈ A.map (·.1) := fun x hx => py.mem_iff.mp (sb.mem (pz.mem_iff.mp hx))
    walk_at "ds"
    refine lcg_map (fun _ => true) (pairP fun x => .int (starts h A D x day)) ?_ ?_ ?_
    · rw [List.length_map]; omega
    · rintro i d acc ed ha
      obtain ⟨x, ex, rfl⟩ := strs_at ed
      have hx := inA x (List.mem_of_getElem? ex)
      have z3 := dr.at_ hx
      have z4 := ra.ok.st _ (arcOf_in hx)
      have ea : lookK (kvsD A) (.inr x) = some (arcD (arcOf A x)) := by rw [look_arcs, if_pos hx]
      have el : lookK (numsKv D) (.inr x) = some (.int (numOf D x)) := by rw [look_nums, if_pos (dr.mem hx)]
      walk_at "ds"
      exact ⟨_, rfl, rfl, rfl, lc_yes ha ed rfl⟩
    rw [filter_yes, pairs_P]
    walk_at "ds"
    have eW : (zs.map fun x => (PyData.str x, PyData.int (starts h A D x day))).map (fun p => PyData.tuple [p.1, p.2]) = (zs.map fun x => (x, starts h A D x day)).map fun p => PyData.tuple [.str p.1, .int p.2] := by rw [List.map_map, List.map_map]; rfl
    have nW : (zs.map fun x => (x, starts h A D x day)).map (·.1) = zs := by rw [List.map_map]; exact (List.map_congr_left fun _ _ => rfl).trans (List.map_id zs)
    rw [eW]
    refine nums_pairs (by rw [nW]; exact nz) ?_
    have w0 : WishOk h A (zs.map fun x => (x, starts h A D x day)) := ⟨by rw [List.length_map]; exact lz, by rw [nW]; exact nz, fun p hp => by obtain ⟨x, hx, rfl⟩ := List.mem_map.mp hp; exact inA x hx, fun p hp => by obtain ⟨x, hx, rfl⟩ := List.mem_map.mp hp; exact ⟨Int.emod_nonneg _ (by omega), Int.emod_lt_of_pos _ (by omega)⟩⟩
    have lW : (zs.map fun x => (x, starts h A D x day)).length = zs.length := List.length_map _
    generalize (zs.map fun x => (x, starts h A D x day)) = W0 at nW w0 lW
    walk_at "ds"
    have wput : ∀ (x : Str) (v : Int), x ∈ zs → 0 ≤ v → v < h → WishOk h A (W0.map fun p => if p.1 = x then (p.1, v) else p) := fun x v hx v0 v1 => by
      have e1 : (W0.map fun p => if p.1 = x then (p.1, v) else p).map (·.1) = W0.map (·.1) := by
        rw [List.map_map]
        refine List.map_congr_left fun p _ => ?_
        show (if p.1 = x then (p.1, v) else p).1 = p.1
        split <;> rfl
      refine ⟨by rw [List.length_map]; exact w0.ln, by rw [e1]; exact w0.nd, fun p hp => ?_, fun p hp => ?_⟩
      · obtain ⟨q, hq, rfl⟩ := List.mem_map.mp hp
        have := w0.inA q hq
        split <;> exact this
      · obtain ⟨q, hq, rfl⟩ := List.mem_map.mp hp
        have := w0.rg q hq
        split
        · exact ⟨v0, v1⟩
        · exact this
    have fin0 : R (DV.d (.dict (numsKv W0))) (n1 + 1 + ss.length) := hR W0 _ w0 (by omega) (by omega)
    have fin1 : R (DV.d (.dict (numsKv W0))) (n1 + 1 + ss.length + 1) := hR W0 _ w0 (by omega) (by omega)
    refine ite_b (fun e => ?_) (fun e => ?_)
    · have ls0 : 0 < ss.length := by
        rw [← pz.length_eq, ← lW]
        cases W0 with
        | nil => cases e
        | cons a r => simp
      walk_at "ds"
      refine ⟨2, rfl, by omega, by omega, by omega, fun e0 e1 e2 => ?_⟩
      walk_at "ds"
      refine ite_b (fun _ => ?_) (fun _ => ?_)
      · walk_at "ds"
        refine ⟨⟨_, rfl⟩, ?_⟩
        walk_at "ds"
        refine ⟨h, rfl, by omega, by omega, by omega, fun v v0 v1 => ?_⟩
        walk_at "ds"
        refine ⟨ss.map .str, rfl, by omega, by rw [List.length_map]; exact ls0, by rw [List.length_map]; omega, fun d hd => ?_⟩
        obtain ⟨x, hx, rfl⟩ := List.mem_map.mp hd
        have hxz : x ∈ zs := pz.mem_iff.mpr hx
        refine w_put (key := .inr x) rfl rfl (by unfold numsKv; rw [List.length_map]; have := w0.ln; omega) ?_
        rw [putD_nums (by rw [nW]; exact hxz)]
        walk_at "ds"
        exact hR _ _ (wput x v hxz v0 v1) (by omega) (by omega)
      · walk_at "ds"
        exact fin1
    · walk_at "ds"
      exact fin0


theorem ok_Ld_asked {P : Program} {w : World} {K : PySem.W.Frag} {mg : Str → Option Value} {base : Heap} (T : Bn mg) {C : Addr}
    (RC : RingC K mg C)
    (D_Ld_due : Df P w K mg base CX0 2 "_law_d_due" ["hours", "arcs", "drifts", "wishes"] (spW C W_Ld_due))
    (C_new_Ring : C8.Mak P w K mg base 4 "Ring" C (sp_Ring_init K C) [])
    (D_Lsame : Df P w K mg base CX0 13 "_law_same" ["found", "due"] (spW C W_Lsame))
    (D_all_start : Df P w K mg base CX0 5 "all_start" ["ring", "drifts", "wishes"] (spW C W_all_start))
    (D_ring_on : Df P w K mg base CX0 7 "ring_on" ["ring", "drifts", "day"] (spW C W_ring_on))
    (D_Ring_arc : Mt P w K mg base C 2 "arc" ["self", "name"] (spW C W_Ring_arc)) (CK_all_start : DfK P w K mg base CX0 5 "all_start" ["ring", "drifts", "wishes"] ["wishes", "drifts", "ring"] (spW C W_all_start))
    {f : Addr} {fd : FuncData} (F : FunD K "_law_d_asked" "_law_d_asked" (defArgs s_Ld_asked) (defBody s_Ld_asked) (defScope s_Ld_asked) [] [] f fd) :
    FnOk P w K mg base CX0 14 f fd ["spring", "hours", "arcs", "drifts", "wishes"] (spW C W_Ld_asked) := by
  apply okW2 F sc_Ld_asked
  case len =>
    intro xs n R h
    obtain ⟨h, A, D, W, rfl, _⟩ := h
    rfl
  case hp =>
    intro cdv A outer s H E hr
    exact (pss_cons (ps_asg (pe_tup (pa_cons (C8.pe_mk C_new_Ring hr (by first | decide | omega) rfl (pa_cons (pv 1) (pa_cons (pe_callTy kdictD (by rfl) T.dict (by decide +kernel) (pa_cons (pv 2) pa_nil)) pa_nil))) (pa_cons (pe_callTy kdictD (by rfl) T.dict (by decide +kernel) (pa_cons (pv 3) pa_nil)) (pa_cons (pe_callTy kdictD (by rfl) T.dict (by decide +kernel) (pa_cons (pv 4) pa_nil)) (pa_cons (pe_df D_Ld_due hr (pa_cons (pv 1) (pa_cons (pv 2) (pa_cons (pv 3) (pa_cons (pv 4) pa_nil))))) pa_nil))))) (kgtup (n := 4) K rfl (pgs_cons (pg_name (i := 5) sc_Ld_asked.nd rfl (Or.inl rfl)) (pgs_cons (pg_name (i := 6) sc_Ld_asked.nd rfl (Or.inl rfl)) (pgs_cons (pg_name (i := 7) sc_Ld_asked.nd rfl (Or.inl rfl)) (pgs_cons (pg_name (i := 8) sc_Ld_asked.nd rfl (Or.inl rfl)) pgs_nil))))))
    (pss_cons (ps_if (PW.pt (pw_or (pt_cmpR op_isN (pv 8) pe_non (nomark _)) (pw_or1 (pt_not (pt_val (pe_df D_Lsame hr (pa_cons (pe_lst (pa_cons (pe_df D_all_start hr (pa_cons (pv 5) (pa_cons (pv 6) (pa_cons (pv 7) pa_nil)))) (pa_cons (pe_dfk CK_all_start hr (pk_cons (pv 7) (pk_cons (pv 6) (pk_cons (pv 5) pk_nil)))) pa_nil))) (pa_cons (pe_lst (pa_cons (pv 8) (pa_cons (pv 8) pa_nil))) pa_nil)))))))) (pss_one (ps_ret pe_bl)) pss_nil)
    (pss_cons (ps_if (pt_cmpR op_eq (pe_ix (kx_tup K) (pv 8) pe_int (fun _ _ => rfl)) pe_str (nomark _)) (pss_cons (ps_set (i := 9) sc_Ld_asked.nd rfl (Or.inr rfl) (pe_df D_ring_on hr (pa_cons (pv 5) (pa_cons (pv 6) (pa_cons (pe_ix (kx_tup K) (pv 8) pe_int (fun _ _ => rfl)) pa_nil)))))
    (pss_one (ps_if (pt_not (pt_val (pe_callB (kall K) (by rfl) T.all (by decide +kernel) (pa_cons (pe_lockU (pe_lc (own := [("name", 10)]) (tt := tYes) rfl sc_Ld_asked.nd (pi_keys (pv 4)) (blkOk_by (N := n_Ld_asked) (sc := defScope s_Ld_asked) (by decide +kernel)) (fun _ _ _ _ _ => (pg_name (i := 10) sc_Ld_asked.nd rfl (Or.inl rfl))) (fun _ _ _ _ _ => pts_nil) (fun _ _ _ _ _ => (pe_cmpR op_eq (pe_ix (kx_tup K) (pe_mm D_Ring_arc hr (pv 9) (pa_cons (pv 10) pa_nil)) pe_int (fun _ _ => rfl)) (pe_dget (hu_of hr) (pv 4) (pv 10) (fun _ _ => rfl)) (nomark _))))) pa_nil)))) (pss_one (ps_ret pe_bl)) pss_nil))) pss_nil)
    (pss_one (ps_ret (pe_and (pe_cmpR (keqDR hr) (pv 6) (pv 3) (nomark _)) (pe_one (pe_cmpR (keqDR hr) (pv 7) (pv 4) (nomark _)))))))))
  case hd => walk_at "td"
  case hs =>
    rintro xs n R ⟨h, A, D, W, rfl, ra, dr, wi, hR⟩
    have z1 := ra.h1
    have z2 := ra.h2
    have nd := ra.ok.nd
    walk_at "dgo"
    refine ⟨h, A, _, rfl, arcs_self A, ra.ok, ra.ln, ra.h1, ra.h2, fun ys py => ?_⟩
    have rb : RingOk h (arcsBy A ys) := ra.by_ py
    walk_at "ds"
    refine ⟨h, A, D, W, rfl, ra, dr, wi, fun us pu su => ?_⟩
    have inA : ∀ x ∈ us, x ∈ A.map (·.1) := fun x hx => by
      obtain ⟨q, hq, rfl⟩ := List.mem_map.mp (pu.mem_iff.mp hx)
      exact wi.inA q hq
    have same : ∀ vs : List Str, vs.Perm (W.map (·.1)) → sortedS vs = true → dueD h (arcsBy A ys) D W vs = dueD h A D W us := fun vs pv sv => by
      rw [sorted_one (pv.trans pu.symm) sv su, due_by nd py inA]
    have nl : ∀ x ∈ us, x.length ≤ 1000 := fun x hx => by have := (ra.ok.names _ (arcOf_in (inA x hx))).hi; simp only at this; omega
    have sh := due_shape z1 (A := A) (D := D) (W := W) (us := us)
    generalize dueD h A D W us = due at same sh
    have ok : isNoneD due = false ∧ dep due ≤ 1 ∧ sm due = true := by
      rcases sh with ⟨x, hx, rfl⟩ | ⟨x, hx, y, hy, rfl⟩ | ⟨day, d0, d1, _, rfl⟩
      · refine ⟨rfl, by simp [dep, depAll], ?_⟩
        simp [sm, smAll, nl x hx]; decide
      · refine ⟨rfl, by simp [dep, depAll], ?_⟩
        simp [sm, smAll, nl x hx, nl y hy]; decide
      · refine ⟨rfl, by simp [dep, depAll], ?_⟩
        simp only [sm, smAll, List.length_cons, List.length_nil, Bool.and_true, Bool.and_eq_true, decide_eq_true_eq]
        exact ⟨by omega, by decide, by omega⟩
    walk_at "ds"
    rw [ok.1]
    refine ite_f rfl ?_
    walk_at "ds"
    refine ⟨h, arcsBy A ys, D, W, rfl, rb, dr.by_ py, wi.by_ py, fun vs pv sv => ?_⟩
    rw [same vs pv sv]
    walk_at "ds"
    refine ⟨h, arcsBy A ys, D, W, rfl, rb, dr.by_ py, wi.by_ py, fun vs pv sv => ?_⟩
    rw [same vs pv sv]
    walk_at "ds"
    refine ⟨.list [due, due], rfl, ?_, ?_, ?_⟩
    · simp only [dep, depAll]; have := ok.2.1; omega
    · simp [sm, smAll, ok.2.2]
    walk_at "ds"
    rcases sh with ⟨x, hx, rfl⟩ | ⟨x, hx, y, hy, rfl⟩ | ⟨day, d0, d1, hg, rfl⟩
    · walk_at "ds"
      refine ite_f (by decide) ?_
      walk_at "ds"
      exact hR
    · walk_at "ds"
      refine ite_f (by decide) ?_
      walk_at "ds"
      exact hR
    · walk_at "ds"
      refine ⟨h, arcsBy A ys, D, day, rfl, rb, dr.by_ py, d0, by omega, fun zs pz => ?_⟩
      rw [arcsBy_names] at pz
      have pzA := pz.trans py
      walk_at "ds"
      refine lcg_map (fun _ => true) (fun _ => .bool true) ?_ ?_ ?_
      · unfold keysD numsKv; rw [List.length_map, List.length_map]; have := wi.ln; omega
      · rintro i d acc ed ha
        have ed2 := ed
        rw [show keysD (numsKv W) = (W.map (·.1)).map .str from nums_keys W] at ed2
        obtain ⟨x, ex, rfl⟩ := strs_at ed2
        have hxW := List.mem_of_getElem? ex
        have hxu := pu.mem_iff.mpr hxW
        have hxA := inA x hxu
        have hxz : x ∈ zs := pzA.mem_iff.mpr hxA
        have elW : lookK (numsKv W) (.inr x) = some (.int (numOf W x)) := by rw [look_nums, if_pos hxW]
        walk_at "ds"
        refine ⟨h, turnA h (arcsBy A ys) D day zs, x, rfl, by rw [turn_names]; exact pzA.nodup_iff.mpr nd, by rw [turn_names]; exact hxz, ?_⟩
        rw [arcOf_turn hxz, starts_by nd py hxA, hg x hxu]
        walk_at "ds"
        rw [decide_eq_true rfl]
        exact ⟨_, rfl, rfl, rfl, lc_yes ha ed rfl⟩
      · rw [filter_yes, show (keysD (numsKv W)).map (fun _ => PyData.bool true) = ((keysD (numsKv W)).map fun _ => true).map .bool by rw [List.map_map]; rfl]
        walk_at "ds"
        rw [show ((keysD (numsKv W)).map fun _ => true).all id = true by simp]
        walk_at "ds"
        exact hR


theorem gh2_mark {A : Around} {v : Option Value} (h : Room 3 A) : GH 2 (A.mark v) := ⟨by have := h.dp; show A.depth + 3 * 2 + 5 < recursionLimit; omega, by have := h.un; show A.units + 16 * 2 + 200 < cLine; omega⟩
theorem gives_Ld_met {X : Cx} {CB1 CB2 : Addr} {g : Addr} {cdg : Value} {q : Str} (Z1 : Rz X.prog X.w X.K X.mg X.base "BadDrifts" CB1 "drifts") (Z2 : Rz X.prog X.w X.K X.mg X.base "BadWishes" CB2 "wishes") (ne : PySem.W.exmOne X.K (.ref CB2) (.ref CB1) = some false)
    (Dv : DfA (GH 2) X.prog X.w X.K X.mg X.base "_law_very" ["kept", "thing"] (sp_LveryW X.K)) :
    Gives2 X n_Ld_met "_law_d_met" (defScope s_Ld_met) g cdg (defBody s_Ld_met) "call" q (T2metD CB1 CB2 (sp_LveryW X.K)) := by
  intro f c1 s H v Q tl hr act hc h
  refine ⟨_, pss_one (ps_try_as2 (X := cxT X n_Ld_met "_law_d_met" (defScope s_Ld_met) g cdg s H)
     (tb := fun W => tRet (tLst (tCons (tC (.str "told")) (tCons (fun τ G R => τ[0]? = some (some (.ref f)) ∧ G c1 = some (LamX.CodeO c1 q) ∧ ∃ Ech : XK, (∀ cls d G', Ech cls d G' → W cls d τ G') ∧ tl Ech G R) tNil))))
     rfl rfl (show n_Ld_met.Nodup by decide)
     (i1 := 2) (n1 := "e") (c1 := .ref CB1) (ts1 := fun a cls d => tRet (tLst (tCons (tC (.str "drifts")) (tCons (tCall (sp_LveryW X.K) [] E0 (tCons (tByX CB1 "drifts" a cls d (tVar 2)) (tCons (tVar 1) tNil))) tNil))))
     (i2 := 2) (n2 := "e") (c2 := .ref CB2) (ts2 := fun a cls d => tRet (tLst (tCons (tC (.str "wishes")) (tCons (tCall (sp_LveryW X.K) [] E0 (tCons (tByX CB2 "wishes" a cls d (tVar 2)) (tCons (tVar 1) tNil))) tNil))))
     ⟨⟨rfl, by decide, .inl Z1.gC⟩, rfl, rfl, fun a oe cls d pn hz hf => pss_one (ps_ret (pe_lst (pa_cons pe_str (pa_cons (pe_dfA Dv (gh2_mark hr) (pa_cons (pe_byX Z1 hz hf (pv 2)) (pa_cons (pv 1) pa_nil))) pa_nil))))⟩
     ⟨⟨rfl, by decide, .inl Z2.gC⟩, rfl, rfl, fun a oe cls d pn hz hf => pss_one (ps_ret (pe_lst (pa_cons pe_str (pa_cons (pe_dfA Dv (gh2_mark hr) (pa_cons (pe_byX Z2 hz hf (pv 2)) (pa_cons (pv 1) pa_nil))) pa_nil))))⟩
     (fun W pn xe tk _ => pss_one (ps_ret (pe_lst (pa_cons pe_str (pa_cons (act W pn xe _ _ tk) pa_nil)))))), ?_⟩
  refine ⟨rfl, hc, _, fun cls d G' z => ?_, h _⟩
  rcases z with ⟨rfl, dd, u, rfl, hd, hq⟩ | ⟨rfl, dd, u, rfl, hd, hq⟩
  · refine ⟨true, Z1.te, fun _ a na => ?_, fun z => by cases z⟩
    refine ⟨.ref a, rfl, rfl, rfl, dd, u, rfl, hd, v, rfl, hq⟩
  · refine ⟨false, ne, (fun z => by cases z), fun _ => ⟨true, Z2.te, fun _ a na => ?_, fun z => by cases z⟩⟩
    refine ⟨.ref a, rfl, rfl, rfl, dd, u, rfl, hd, v, rfl, hq⟩

/-- a thing that is data, and not locked -/
structure Thg (F : List Addr) (H : Hp) (v : V) (d : PyData) : Prop where
  im : Im F H v d
  un : ∀ a, v = .ref a → (∃ xs, H a = some (.lst xs)) ∨ ∃ ks, H a = some (.dK ks)
theorem Thg.ext {F : List Addr} {H H1 : Hp} {v : V} {d : PyData} (t : Thg F H v d) (e : LamX.ExtN H H1) : Thg F H1 v d :=
  ⟨Im.rx (ext_rx e) _ t.im, fun a ea => (t.un a ea).imp (fun ⟨xs, h⟩ => ⟨xs, e _ _ h (fun ps z => by cases z)⟩) fun ⟨ks, h⟩ => ⟨ks, e _ _ h (fun ps z => by cases z)⟩⟩
theorem Thg.unl {F : List Addr} {H : Hp} {v : V} {d : PyData} (t : Thg F H v d) : Unl H v := by
  cases v with
  | ref a =>
    intro o u z
    rcases t.un a rfl with ⟨xs, h⟩ | ⟨ks, h⟩ <;> rw [h] at z <;> cases z
  | _ => trivial
theorem Thg.sub {F T : List Addr} {H : Hp} {v : V} {d : PyData} (t : Thg F H v d) (g : ∀ a ∈ T, a ∈ F ∨ H a = none) : Thg T H v d := ⟨Im.sub g _ t.im, t.un⟩
theorem kept {H H' : Hp} {dx : Addr} {w : HO} (g : Nx [] H H') (nd : H' dx = none) : ∀ b o, H b = some o → (upd H' dx w) b = some o := fun b o e => by
  have e1 := g.kp b o (by simp) e
  rw [upd_ne (ne_of_none e1 nd)]; exact e1
theorem ext_of {H H1 : Hp} (e : ∀ b o, H b = some o → H1 b = some o) : LamX.ExtN H H1 := fun b o z _ => e b o z
theorem Im.out {S : List Addr} {H : Hp} {a : Addr} {d : PyData} (h : Im S H (.ref a) d) : a ∉ S := by
  cases h <;> assumption
theorem tabs_put {T : List (Addr × Str)} {H : Hp} {D : Addr} {xs : List V} {o : HO} (t : LamX.Tabs T H) (e : H D = some (.lst xs)) : LamX.Tabs T (upd H D o) := fun p hp => by
  obtain ⟨ps, h1, h2, h3⟩ := t p hp
  have ne : ∀ b u, H b = some u → (∀ ys, u ≠ .lst ys) → upd H D o b = some u := fun b u eb nl => by rw [upd_ne (fun z => by rw [z, e] at eb; cases eb; exact nl _ rfl)]; exact eb
  refine ⟨ps, ne _ _ h1 (fun _ z => by cases z), h2, fun pos cv hc => ?_⟩
  obtain ⟨c, e1, e2⟩ := h3 pos cv hc
  exact ⟨c, e1, ne _ _ e2 (fun ys z => by unfold LamX.CodeO at z; cases z)⟩
theorem fresh1 {H : Hp} {p : Addr} {w : HO} (n : H p = none) : ∀ b o, H b = some o → upd H p w b = some o := fun b o e => by rw [upd_ne (ne_of_none e n)]; exact e
theorem fresh2 {H : Hp} {p : Addr} {w w2 : HO} (n : H p = none) : ∀ b o, H b = some o → upd (upd H p w) p w2 b = some o := fun b o e => by rw [upd_ne (ne_of_none e n), upd_ne (ne_of_none e n)]; exact e
/-- a thing that is no wishes -/
def Wth (F : List Addr) (H : Hp) (h : Int) (A : Arcs) (v : V) : Prop := ∃ d, Thg F H v d ∧ (∀ ds, d = .dict ds → ds.length ≤ 1000 ∧ ∀ p ∈ ds, ∃ k, p.1 = kD k ∧ (lookK ds k).isSome = true) ∧ isWishesB h A d = false ∧ NoLate d ∧ isTupD d = false ∧ sm d = true
theorem Wth.ext {F : List Addr} {H H1 : Hp} {h : Int} {A : Arcs} {v : V} (w : Wth F H h A v) (e : LamX.ExtN H H1) : Wth F H1 h A v := by
  obtain ⟨d, t, r⟩ := w
  exact ⟨d, t.ext e, r⟩
theorem Wth.put {F : List Addr} {H : Hp} {D : Addr} {o : HO} {h : Int} {A : Arcs} {v : V} (w : Wth (D :: F) H h A v) : Wth (D :: F) (upd H D o) h A v := by
  obtain ⟨d, t, r⟩ := w
  refine ⟨d, ⟨t.im.nx (.put (by simp)), fun a ea => ?_⟩, r⟩
  have ne : a ≠ D := fun z => Im.out (by rw [← ea]; exact t.im) (by rw [z]; simp)
  rw [upd_ne ne]
  exact t.un a ea
theorem Wth.less {F : List Addr} {H : Hp} {D : Addr} {h : Int} {A : Arcs} {v : V} (w : Wth (D :: F) H h A v) : Wth F H h A v := by
  obtain ⟨d, t, r⟩ := w
  exact ⟨d, t.sub fun a ha => .inl (List.mem_cons_of_mem _ ha), r⟩
theorem Wth.flat {F : List Addr} {H : Hp} {h : Int} {A : Arcs} {v : V} {d : PyData} (i : Im F H v d) (nr : ∀ a, v ≠ .ref a) (nd : ∀ ds, d ≠ .dict ds) (nt : isTupD d = false) (s : sm d = true) : Wth F H h A v :=
  ⟨d, ⟨i, fun a z => absurd z (nr a)⟩, fun ds e => absurd e (nd ds), by cases d <;> first | rfl | exact absurd rfl (nd _), fun ds e => absurd e (nd ds), nt, s⟩
theorem Wth.lst {F : List Addr} {H : Hp} {h : Int} {A : Arcs} {a : Addr} {xs : List V} {ds : List PyData} (e : H a = some (.lst xs)) (na : a ∉ F) (i : ImAll F H xs ds) (s : sm (.list ds) = true) : Wth F H h A (.ref a) :=
  ⟨.list ds, ⟨.lst na (.inl e) i, (fun b z => by cases z; exact .inl ⟨_, e⟩)⟩, (fun _ z => by cases z), rfl, (fun _ z => by cases z), rfl, s⟩
theorem Wth.one {F : List Addr} {H : Hp} {h : Int} {A : Arcs} {a : Addr} {k : Key} {v : V} {d : PyData} (e : H a = some (.dK [(k, v)])) (na : a ∉ F) (i : Im F H v d) (hw : isWishesB h A (.dict [(kD k, d)]) = false) (nl : kD k ≠ .str " late ") (s : sm (.dict [(kD k, d)]) = true) : Wth F H h A (.ref a) :=
  ⟨.dict [(kD k, d)], ⟨.dct na (.inl e) (by simp) (.cons i .nil), (fun b z => by cases z; exact .inr ⟨_, e⟩)⟩, (fun ds z => by
    cases z
    refine ⟨by simp, fun p hp => ⟨k, by rw [List.mem_singleton.mp hp], ?_⟩⟩
    cases k <;> simp [kD, lookK]), hw, (fun ds z p hp => by cases z; rw [List.mem_singleton.mp hp]; exact nl), rfl, s⟩
section
variable {K : PySem.W.Frag} {C CB1 CB2 r : Addr} {F : List Addr} {H : Hp} {h : Int} {A : Arcs} {v : V} {d : PyData} {Q : VK}
theorem met_drifts (rR : RingR F H C r h A) (hA : A.length ≤ 40) (t : Thg F H v d) (hd : isDriftsB h A d = false) (nl : NoLate d) (nt : isTupD d = false) (s : sm d = true)
    (q : ∀ p H', (∀ b o, H b = some o → H' b = some o) → H' p = some (.lst [.str "drifts", .bl true]) → Q (.ref p) H') {tl : XK → Hp → VK → Prop} (htl : ∀ E k, sp_all_startX K C CB1 CB2 [.ref r, v, .non] H k E → tl E H k) : T2metD CB1 CB2 (sp_LveryW K) v tl H Q := fun k => by
  refine htl _ _ ?_
  refine ⟨r, h, A, v, .non, d, .none, rfl, rR.sub (by simp), hA, Im.sub (by simp) _ t.im, .non, fun e => (by rw [hd] at e; cases e), fun H' g => ⟨fun _ dx nd => .inl ⟨rfl, dx, v, rfl, upd_same, v, d, rfl, ?_, ?_, nl, nt, s, fun H2 g2 => ⟨by decide, fun p np => q p _ ?_ upd_same⟩⟩, fun e => (by rw [hd] at e; cases e)⟩⟩
  · exact Im.sub (by simp) _ (t.ext (ext_of (kept g nd))).im
  · exact (t.ext (ext_of (kept g nd))).unl
  · intro b o e
    have e2 := g2.kp b o (by simp) (kept g nd b o e)
    rw [upd_ne (ne_of_none e2 np)]; exact e2
theorem met_wishes {D : Nums} (rR : RingR F H C r h A) (hA : A.length ≤ 40) (dr : DriftOk h A D) (w : Wth F H h A v)
    (q : ∀ p H', (∀ b o, H b = some o → H' b = some o) → H' p = some (.lst [.str "wishes", .bl true]) → Q (.ref p) H') {tl : XK → Hp → VK → Prop}
    (htl : ∀ E k, (∀ u H0, (∀ b o, H b = some o → H0 b = some o) → Im F H0 u (numsD D) → sp_all_startX K C CB1 CB2 [.ref r, u, v] H0 k E) → tl E H k) : T2metD CB1 CB2 (sp_LveryW K) v tl H Q := fun k => by
  refine htl _ _ fun u H0 k0 iu => ?_
  obtain ⟨d, t, wk, hd, nl, nt, s⟩ := w.ext (ext_of k0)
  obtain ⟨nr, dx0, w0, e1, im1⟩ := rR
  have rR0 : RingR [] H0 C r h A := ⟨by simp, dx0, w0, k0 _ _ e1, Im.sub (by simp) _ (Im.rx (ext_rx (ext_of k0)) _ im1)⟩
  refine ⟨r, h, A, u, v, numsD D, d, rfl, rR0, hA, Im.sub (by simp) _ iu, Im.sub (by simp) _ t.im, fun _ => ⟨wk, hd⟩, fun H' g => ⟨fun e => (by rw [dr.is] at e; cases e), fun _ dx nd => .inr ⟨rfl, dx, v, rfl, upd_same, v, d, rfl, ?_, ?_, nl, nt, s, fun H2 g2 => ⟨by decide, fun p np => q p _ ?_ upd_same⟩⟩⟩⟩
  · exact Im.sub (by simp) _ (t.ext (ext_of (kept g nd))).im
  · exact (t.ext (ext_of (kept g nd))).unl
  · intro b o e
    have e2 := g2.kp b o (by simp) (kept g nd b o (k0 b o e))
    rw [upd_ne (ne_of_none e2 np)]; exact e2
end
theorem nums_sm {D : Nums} (hl : D.length ≤ 1000) (h : ∀ p ∈ D, p.1.length ≤ 1000 ∧ p.2.natAbs < 2 ^ 100) : sm (numsD D) = true := by
  have kv : ∀ {E : Nums}, (∀ p ∈ E, p.1.length ≤ 1000 ∧ p.2.natAbs < 2 ^ 100) → smKv (numsKv E) = true := by
    intro E
    induction E with
    | nil => intro _; rfl
    | cons p r ih =>
      intro g
      have g0 := g p List.mem_cons_self
      show (sm (.str p.1) && sm (.int p.2) && smKv (numsKv r)) = true
      rw [ih fun q hq => g q (List.mem_cons_of_mem _ hq), sm, sm, decide_eq_true g0.1, decide_eq_true g0.2]
      rfl
  show (decide ((numsKv D).length ≤ 1000) && smKv (numsKv D)) = true
  rw [kv h, Bool.and_true]
  exact decide_eq_true (by unfold numsKv; rw [List.length_map]; exact hl)
theorem nums_noLate {D : Nums} (h : ∀ p ∈ D, p.1 ≠ " late ") : NoLate (numsD D) := fun ds e p hp z => by
  injection e with e
  subst e
  obtain ⟨q, hq, rfl⟩ := List.mem_map.mp hp
  exact h q hq (by injection z)
theorem name_noLate {x : Str} (h : NameOk x) : x ≠ " late " := fun z => by
  subst z
  obtain ⟨c, e1, e2⟩ := h.first
  rw [show ((" late " : Str).cps.toList)[0]? = some 32 from rfl] at e1
  cases e1
  revert e2
  decide
theorem TDF.use {C : Addr} {F M S : List Addr} {H : Hp} {σ : L2.St} {δ : DSt} {n : Nat} {te : TE} {df : DTF} {R : DO → DSt → Nat → Prop} {Q : VK} (h : TDF C te df) (r : Rel C F M S H σ δ n) (hd : df δ n R)
    (hq : ∀ p o S' H' δ' n', Stp M S H S' H' → Rel C F M S' H' σ δ' n' → Rel C F M (p :: S') H' σ δ' n' → H p = none → p ∉ S' → p ∉ F → NewO (p :: (S' ++ F)) H' p o → R o δ' n' → Q (.ref p) H') : te σ H Q := h r hd hq
theorem ok_Ld_refused {P : Program} {w : World} {K : PySem.W.Frag} {mg : Str → Option Value} {base : Heap} (T : Bn mg)
    {C : Addr} (RC : RingC K mg C)
    (C_new_Ring : C8.Mak P w K mg base 4 "Ring" C (sp_Ring_init K C) [])
    {CB1 CB2 c0 P0 : Addr} (C_all_startX : Df P w K mg base (L2.CX P w) 5 "all_start" ["ring", "drifts", "wishes"] (sp_all_startX K C CB1 CB2)) (Z_BadDrifts : Rz P w K mg base "BadDrifts" CB1 "drifts") (Z_BadWishes : Rz P w K mg base "BadWishes" CB2 "wishes") (hne : PySem.W.exmOne K (.ref CB2) (.ref CB1) = some false) (Dv : DfA (GH 2) P w K mg base "_law_very" ["kept", "thing"] (sp_LveryW K))
    (MG : ∃ (g : Addr) (oc : Value) (od : Option Addr) (dV kV doc pm : Value) (an : Option Addr) (cdv ct : Value) (osl : Array (Option Value)), mg "_law_d_met" = some (.ref g) ∧ PySem.W.keepIn K (.ref g) = true ∧
      K.lookup g = some ⟨oc, od, .func (PySem.W.fnOf "_law_d_met" "_law_d_met" (defArgs s_Ld_met) (defBody s_Ld_met) (defScope s_Ld_met) dV kV doc pm an cdv ct), osl⟩ ∧ PySem.W.codeIn K cdv "_law_d_met" = true ∧ L2.Binds K (PySem.W.fnOf "_law_d_met" "_law_d_met" (defArgs s_Ld_met) (defBody s_Ld_met) (defScope s_Ld_met) dV kV doc pm an cdv ct) ["call", "thing"] [])
    {f : Addr} {fd : FuncData} (F : FunD K "_law_d_refused" "_law_d_refused" (defArgs s_Ld_refused) (defBody s_Ld_refused) (defScope s_Ld_refused) [] [] f fd) (hJ : fd.code = .ref c0) (TB : LamX.TabB base mg c0 P0) :
    FnA (GG 8) P w K mg base f fd ["hours", "arcs", "drifts"] (sp_Ld_refused K C P0) := by
  refine okAc true F sc_Ld_refused (fun vs H Q h => ?_) (fun A gA => gA.depth) (fun _ A gA => gA.1.hd) (fun cdv A outer s H vs Q ec gA h => ?_)
  · obtain ⟨F, h, A, D, va, vd, rfl, _⟩ := h
    rfl
  obtain rfl : cdv = .ref c0 := ec.symm.trans hJ
  have hr := gA.1.deeper (envOfC "_law_d_refused" (defScope s_Ld_refused) s.heap.objs.size f (.ref c0))
  have hg := (gA.deeper (envOfC "_law_d_refused" (defScope s_Ld_refused) s.heap.objs.size f (.ref c0))).2
  obtain ⟨g, oc, od, dV, kV, doc, pm, an, cdv, ct, osl, hmG, hkG, lkG, hcG, hbG⟩ := MG
  · obtain ⟨F, h, A, D, va, vd, rfl, al, ntF, tb, iA, iD, ra, dr, q⟩ := h
    have alx : ∀ {G : Hp}, LamX.ExtN H G → Al F G := fun {G} e a ha z => by
      cases eh : H a with
      | none => exact al a ha eh
      | some o =>
        rw [e a o eh (fun ps y => ntF a ha ps (by rw [eh, y]))] at z
        cases z
    refine ⟨_, PSs.nox (pss_cons (ps_set (i := 3) sc_Ld_refused.nd rfl (Or.inr rfl) (C8.pe_mk C_new_Ring hr (by first | decide | omega) rfl (pa_cons (pv 0) (pa_cons (pe_callTy kdictD (by rfl) T.dict (by decide +kernel) (pa_cons (pv 1) pa_nil)) pa_nil))))
    (pss_cons (ps_for PassesOwn.never rfl (ki_list K (pe_lst (pa_cons pe_non (pa_cons pe_int (pa_cons (pe_lst pa_nil) (pa_cons pe_str (pa_cons (pe_callTy (kdictP K) (by rfl) T.dict (by decide +kernel) (pa_cons (pe_op (kcatR K) (pe_litems rfl (pv 2) (by rfl) T.list) (pe_lst (pa_cons (pe_tup (pa_cons pe_str (pa_cons pe_int pa_nil))) pa_nil))) pa_nil)) pa_nil))))))) (pg_name (i := 4) sc_Ld_refused.nd rfl (Or.inr rfl))
      (pss_one (ps_if (pt_cmpR (kneD K hr) (pe_met1 (k := 3) (i := 4) (qq := ("_law_d_refused" : Str) ++ ".<locals>.") (P := P0) (T2 := T2metD CB1 CB2 (sp_LveryW K)) hmG hkG lkG hcG hbG sc_Ld_met rfl (Or.inl rfl) (fun _ => gives_Ld_met Z_BadDrifts Z_BadWishes hne Dv) TB rfl (hr.mono (by decide)) (show LamX.LamS (defScope s_Ld_refused) _ from LamX.lamS_by (by decide +kernel)) rfl (fun _ _ _ _ _ => rfl) (fun A2 outer2 s2 H2 E2 f2 c2 hr2 => pe_dfX (E := E2) C_all_startX hr2 (takes_of rfl rfl rfl rfl) (pa_cons (pv 3) (pa_cons (pv 4) (pa_cons pe_non pa_nil)))) rfl (Or.inr (Or.inl rfl)) rfl) (pe_lst (pa_cons pe_str (pa_cons pe_bl pa_nil))) (nomark _)) (pss_one (ps_ret pe_bl)) pss_nil)))
    (pss_cons (ps_set (i := 5) sc_Ld_refused.nd rfl (Or.inl rfl) (pe_lst (pa_cons pe_non (pa_cons pe_int (pa_cons (pe_lst pa_nil) (pa_cons pe_str (pa_cons (pe_disp (pps_cons pe_str pe_int pps_nil) (by rfl) (by rfl) (fun z => by cases z) (by decide)) (pa_cons (pe_disp (pps_cons pe_int pe_int pps_nil) (by rfl) (by rfl) (fun z => by cases z) (by decide)) pa_nil))))))))
    (pss_cons (ps_for PassesOwn.never rfl (ki_list K (pe_slice (ksl_list K) (pe_callB (call_sortedD rfl) (by rfl) T.sorted (by decide +kernel) (pa_cons (pv 1) pa_nil)) po_none (po_some pe_int))) (pg_name (i := 6) sc_Ld_refused.nd rfl (Or.inr rfl))
      (pss_one (ps_set (i := 5) sc_Ld_refused.nd rfl (Or.inl rfl) (pe_op (kcatR K) (pv 5) (pe_lc (own := [("one", 7)]) (tt := tYes) rfl sc_Ld_refused.nd (ki_list K (pe_lst (pa_cons (pe_un un_neg pe_int) (pa_cons (pv 0) (pa_cons pe_non (pa_cons pe_bl (pa_cons pe_str (pa_cons (pe_lst (pa_cons pe_int pa_nil)) pa_nil)))))))) (blkOk_by (N := n_Ld_refused) (sc := defScope s_Ld_refused) (by decide +kernel)) (fun _ _ _ _ _ => (pg_name (i := 7) sc_Ld_refused.nd rfl (Or.inl rfl))) (fun _ _ _ _ _ => pts_nil) (fun _ _ _ _ _ => (pe_disp (pps_cons (pv 6) (pv 7) pps_nil) (by rfl) (by rfl) (fun z => by cases z) (by decide))))))))
    (pss_one (ps_ret (pe_callB (kall K) (by rfl) T.all (by decide +kernel) (pa_cons (pe_lc (own := [("thing", 4)]) (tt := tYes) rfl sc_Ld_refused.nd (ki_list K (pv 5)) (blkOk_by (N := n_Ld_refused) (sc := defScope s_Ld_refused) (by decide +kernel)) (fun _ _ _ _ _ => (pg_name (i := 4) sc_Ld_refused.nd rfl (Or.inr rfl))) (fun _ _ _ _ _ => pts_nil) (fun _ _ _ _ _ => (pe_cmpR (keqD K hr) (pe_metB (k := 3) (i := 4) (qq := ("_law_d_refused" : Str) ++ ".<locals>.") (P := P0) (T2 := T2metD CB1 CB2 (sp_LveryW K)) hmG hkG lkG hcG hbG sc_Ld_met rfl (Or.inl rfl) (fun _ => gives_Ld_met Z_BadDrifts Z_BadWishes hne Dv) TB rfl (hr.mono (by decide)) (LamX.lamS_by (by rfl)) rfl (fun _ _ _ _ _ => rfl) (fun A2 outer2 s2 H2 E2 f2 c2 hr2 => pe_dfX (E := E2) C_all_startX hr2 (takes_of rfl rfl rfl rfl) (pa_cons (pv 3) (pa_cons (pe_callTy kdictD (by rfl) T.dict (by decide +kernel) (pa_cons (pv 2) pa_nil)) (pa_cons (pv 4) pa_nil)))) rfl (Or.inr (Or.inl rfl)) rfl) (pe_lst (pa_cons pe_str (pa_cons pe_bl pa_nil))) (nomark _)))) pa_nil)))))))), ?_⟩
    walk_at "go"
    have r0 : Rel C F [] [] H [some (.int h), some va, some vd, none, none, none, none, none] [some (.v (.d (.int h))), some (.v (.d (arcsD A))), some (.v (.d (numsD D))), none, none, none, none, none] 0 :=
      rel_start (N := n_Ld_refused) (xs := [.d (.int h), .d (arcsD A), .d (numsD D)]) al (by intro a z; cases z) (by intro a z; cases z) (.cons (sh_int h) (.cons iA (.cons iD .nil)))
    refine ok_dictD (C := C) (M := []) al (.cons (ShR.of (C := C) (M := []) (x := .d (arcsD A)) iA) .nil) (w_copyA (k := fun o => o = .m (kvsD A)) rfl) fun pA o H1 npA gA hpA noA eo => ?_
    subst eo
    have iAA : Im F H1 (.ref pA) (arcsD A) := NewO.val (C := C) (M := []) noA (al.ne npA)
    have al1 : Al F H1 := al.mono gA
    walk_at "st"
    refine s_ringMade al1 iAA (arcs_self A) ra.ok ra.ln ra.h1 ra.h2 (fun r ys H2 nr py g2 rR => ?_)
    have r2 := ((r0.nx0 gA).nx0 g2).set (i := 3) (x := .ring h (arcsBy A ys)) (v := .ref r) ⟨r, rfl, rR⟩
    walk_at "st"
    intro p0 np0
    have nF0 : p0 ∉ F := (al1.mono g2).ne np0
    have e0 : (upd H2 p0 (.lst [])) p0 = some (.lst []) := upd_same
    have r3 := r2.nx0 (Nx.new (o := .lst []) np0)
    have g3 : Nx [] H (upd H2 p0 (.lst [])) := (gA.trans g2).trans (.new np0)
    have k23 : ∀ b o, H2 b = some o → (upd H2 p0 (.lst [])) b = some o := fun b o e => by rw [upd_ne (ne_of_none e np0)]; exact e
    generalize upd H2 p0 (.lst []) = H3 at e0 r3 g3 k23 ⊢
    refine s_cons ?_
    refine s_c ?_
    refine s_cons ?_
    have lD : D.length = A.length := by have := dr.pm.length_eq; rwa [List.length_map, List.length_map] at this
    have lA := ra.ln
    have z1 := ra.h1
    have z2 := ra.h2
    have nQ : ("Q" : Str) ∉ A.map (·.1) := fun ha => by
      obtain ⟨c, e1, e2⟩ := (ra.ok.names _ (arcOf_in ha)).first
      have e1 : (("Q" : Str).cps.toList)[0]? = some c := e1
      rw [show (("Q" : Str).cps.toList)[0]? = some 81 from rfl] at e1
      cases e1
      revert e2
      decide
    have ndQ : ((D ++ [(("Q" : Str), (0 : Int))]).map (·.1)).Nodup := by
      rw [List.map_append, List.nodup_append]
      refine ⟨dr.pm.nodup_iff.mpr ra.ok.nd, by simp, fun a ha b hb e => ?_⟩
      rw [List.mem_singleton.mp hb] at e
      subst e
      exact nQ (dr.pm.mem_iff.mp ha)
    refine' TDF.use (C := C) ?T (R := fun o δ' n' => o = .m (numsKv (D ++ [(("Q" : Str), (0 : Int))]))) r3 ?d ?k
    case T =>
      with_reducible apply tdf_nb
      any_goals (with_reducible exact ok_dictP)
      walk_at "td"
    case d =>
      walk_at "ds"
      refine w_catD rfl rfl (by unfold itemsL numsKv; simp only [List.length_map, List.length_cons, List.length_nil]; omega) ?_
      walk_at "ds"
      rw [show itemsL (numsKv D) ++ [PyData.tuple [.str "Q", .int 0]] = (D ++ [(("Q" : Str), (0 : Int))]).map (fun p => .tuple [.str p.1, .int p.2]) by unfold itemsL numsKv; rw [List.map_map, List.map_append]; rfl]
      exact nums_pairs ndQ rfl
    case k =>
      intro p5 o S5 H5 δ5 n5 g5 r5' r5 np5 nS5 nF5 no5 eo
      subst eo
      obtain ⟨ks5, e5, nd5, im5⟩ := no5
      have k5 : ∀ b o, H3 b = some o → H5 b = some o := fun b o e => g5.nx.kp b o (by simp) e
      have i5 : Im F H5 (.ref p5) (numsD (D ++ [(("Q" : Str), (0 : Int))])) := Im.sub (fun a ha => .inl (List.mem_append_right _ ha)) _ (Im.dct (fun z => (List.mem_append.mp z).elim nS5 nF5) (.inl e5) nd5 im5.tail)
      walk_at "st"
      intro pl npl
      refine ⟨pl, rfl, ⟨_, .inl (.of upd_same)⟩, ?_⟩
      have k6 : ∀ b o, H5 b = some o → (upd H5 pl (.lst [.non, .int 0, .ref p0, .str "", .ref p5])) b = some o := fun b o e => by rw [upd_ne (ne_of_none e npl)]; exact e
      have e6 : (upd H5 pl (.lst [.non, .int 0, .ref p0, .str "", .ref p5])) pl = some (.lst [.non, .int 0, .ref p0, .str "", .ref p5]) := upd_same
      generalize upd H5 pl (.lst [.non, .int 0, .ref p0, .str "", .ref p5]) = H6 at k6 e6 ⊢
      have x6 : LamX.ExtN H5 H6 := ext_of k6
      have e06 := k6 _ _ (k5 _ _ e0)
      have e56 := k6 _ _ e5
      have i56 := Im.rx (ext_rx x6) _ i5
      have kA : ∀ b o, H b = some o → H6 b = some o := fun b o e => k6 b o (k5 b o (g3.kp b o (by simp) e))
      have tb6 : LamX.Tabs [(P0, (("_law_d_refused" : Str) ++ ".<locals>.") ++ "<lambda>")] H6 := tb.ext kA
      have rR6 : RingR F H6 C r h (arcsBy A ys) := by
        obtain ⟨nr, dx, w, e1, im⟩ := rR
        have k26 : ∀ b o, H2 b = some o → H6 b = some o := fun b o e => k6 b o (k5 b o (k23 b o e))
        exact ⟨nr, dx, w, k26 _ _ e1, Im.rx (ext_rx (ext_of k26)) _ im⟩
      have i26 : Im F H6 vd (numsD D) := Im.rx (ext_rx (ext_of kA)) _ iD
      have things : ∀ v ∈ [V.non, .int 0, .ref p0, .str "", .ref p5], ∃ d, Thg F H6 v d ∧ isDriftsB h (arcsBy A ys) d = false ∧ NoLate d ∧ isTupD d = false ∧ sm d = true := by
        intro v hv
        simp only [List.mem_cons, List.not_mem_nil, or_false] at hv
        rcases hv with e | e | e | e | e <;> subst e
        · exact ⟨.none, ⟨.non, fun a z => by cases z⟩, rfl, (fun ds z => by cases z), rfl, rfl⟩
        · exact ⟨.int 0, ⟨.int _, fun a z => by cases z⟩, rfl, (fun ds z => by cases z), rfl, by decide +kernel⟩
        · exact ⟨.list [], ⟨.lst nF0 (.inl e06) .nil, fun a z => by cases z; exact .inl ⟨_, e06⟩⟩, rfl, (fun ds z => by cases z), rfl, by decide +kernel⟩
        · exact ⟨.str "", ⟨.str _, fun a z => by cases z⟩, rfl, (fun ds z => by cases z), rfl, by decide +kernel⟩
        · refine ⟨_, ⟨i56, fun a z => by cases z; exact .inr ⟨_, e56⟩⟩, ?_, ?_, rfl, ?_⟩
          · show (decide ((numsKv (D ++ [(("Q" : Str), (0 : Int))])).length = (arcsBy A ys).length) && _) = false
            rw [decide_eq_false, Bool.false_and]
            unfold numsKv arcsBy
            rw [List.length_map, List.length_map, List.length_append, py.length_eq, List.length_map, lD]
            simp
          · refine nums_noLate fun p hp => ?_
            rcases List.mem_append.mp hp with z | z
            · exact name_noLate (ra.ok.names _ (arcOf_in (dr.pm.mem_iff.mp (List.mem_map_of_mem z))))
            · rw [List.mem_singleton.mp z]; decide
          · refine nums_sm (by rw [List.length_append, lD]; simp; omega) fun p hp => ?_
            rcases List.mem_append.mp hp with z | z
            · have n1 := (ra.ok.names _ (arcOf_in (dr.pm.mem_iff.mp (List.mem_map_of_mem (f := (·.1)) z)))).hi
              have n2 := dr.rg p z
              simp only at n1
              exact ⟨by omega, Nat.lt_of_le_of_lt (show p.2.natAbs ≤ 1000 by omega) (by decide)⟩
            · rw [List.mem_singleton.mp z]; exact ⟨by decide, by decide⟩
      refine for_runs (runs_list (K := K) (a := pl) (xs := [V.non, .int 0, .ref p0, .str "", .ref p5])) (fun i σ H' => ∃ (y4 y5 y6 y7 : Option V), σ = [some (V.int h), some va, some vd, some (V.ref r), y4, y5, y6, y7] ∧ LamX.ExtN H6 H' ∧ LamX.Tabs [(P0, (("_law_d_refused" : Str) ++ ".<locals>.") ++ "<lambda>")] H') ?_ (fun i σ H' ⟨_, _, _, _, _, g, _⟩ => .inl (.of (g pl _ e6 (fun ps z => by cases z)))) ?_ ?_
      · exact ⟨_, _, _, _, rfl, .refl _, tb6⟩
      · rintro i σ _ x Hx hi ⟨y4, y5, y6, y7, rfl, gx, tbx⟩ ⟨rfl, ex⟩
        obtain ⟨d, th, hd, nl, nt, sd⟩ := things x (List.mem_of_getElem? ex)
        walk_at "st"
        refine ⟨tbx, x, rfl, fun H1 g1 tb1 => ?_⟩
        have gg := gx.trans g1
        have rR1 : RingR F H1 C r h (arcsBy A ys) := by
          obtain ⟨nr, dx, w, e1, im⟩ := rR6
          exact ⟨nr, dx, w, gg _ _ e1 (fun ps z => by cases z), Im.rx (ext_rx gg) _ im⟩
        refine met_drifts rR1 (by unfold arcsBy; rw [List.length_map, py.length_eq, List.length_map]; exact lA) (th.ext gg) hd nl nt sd (fun p H2 k2 ep => ?_) (fun E k z => ⟨_, rfl, _, rfl, z⟩)
        walk_at "st"
        intro p2 np2
        refine s_neD (w := "drifts") (b := true) (by rw [upd_ne (ne_of_none ep np2)]; exact ep) upd_same shaped_drifts ?_
        walk_at "st"
        have kk : ∀ b o, H1 b = some o → (upd H2 p2 (.lst [.str "drifts", .bl true])) b = some o := fun b o e => by rw [upd_ne (ne_of_none (k2 b o e) np2)]; exact k2 b o e
        exact ⟨_, _, _, _, rfl, gg.trans (ext_of kk), tb1.ext kk⟩
      · rintro σ Hx ⟨y4, y5, y6, y7, rfl, gx, tbx⟩
        walk_at "st"
        intro q0 nq0
        walk_at "st"
        intro qQ nqQ
        refine ⟨upd_same, [(.inr "Q", .int 0)], rfl, by decide, ?_⟩
        walk_at "st"
        intro q7 nq7
        refine ⟨upd_same, [(.inl 7, .int 0)], rfl, by decide, ?_⟩
        walk_at "st"
        intro qb nqb
        have n1 : Hx qQ = none := by
          cases e : Hx qQ with
          | none => rfl
          | some o => rw [fresh1 nq0 _ _ e] at nqQ; cases nqQ
        have f1 := fresh1 (w := .lst []) nq0
        have f2 := fresh2 (w := .dK []) (w2 := .dK (mergeK [] [(Sum.inr ("Q" : Str), V.int 0)])) nqQ
        have f3 := fresh2 (w := .dK []) (w2 := .dK (mergeK [] [(Sum.inl (7 : Int), V.int 0)])) nq7
        have f4 := fresh1 (w := .lst [V.non, V.int 0, V.ref q0, V.str "", V.ref qQ, V.ref q7]) nqb
        have e70 := f4 _ _ (f3 _ _ (f2 _ _ (upd_same (H := Hx) (a := q0) (o := .lst []))))
        have e7Q := f4 _ _ (f3 _ _ (upd_same (H := upd (upd Hx q0 (.lst [])) qQ (.dK [])) (a := qQ) (o := .dK (mergeK [] [(Sum.inr ("Q" : Str), V.int 0)]))))
        have e77 := f4 _ _ (upd_same (H := upd (upd (upd (upd Hx q0 (.lst [])) qQ (.dK [])) qQ (.dK (mergeK [] [(Sum.inr ("Q" : Str), V.int 0)]))) q7 (.dK [])) (a := q7) (o := .dK (mergeK [] [(Sum.inl (7 : Int), V.int 0)])))
        have e7b := upd_same (H := upd (upd (upd (upd (upd Hx q0 (.lst [])) qQ (.dK [])) qQ (.dK (mergeK [] [(Sum.inr ("Q" : Str), V.int 0)]))) q7 (.dK [])) q7 (.dK (mergeK [] [(Sum.inl (7 : Int), V.int 0)]))) (a := qb) (o := .lst [V.non, V.int 0, V.ref q0, V.str "", V.ref qQ, V.ref q7])
        have k7 : ∀ b o, Hx b = some o → _ := fun b o e => f4 b o (f3 b o (f2 b o (f1 b o e)))
        have xHx : LamX.ExtN H Hx := (ext_of kA).trans gx
        have alX := alx xHx
        have m0 : q0 ∉ F := alX.ne nq0
        have mQ : qQ ∉ F := alX.ne n1
        have n2 : Hx q7 = none := by
          cases e : Hx q7 with
          | none => rfl
          | some o => rw [f2 _ _ (f1 _ _ e)] at nq7; cases nq7
        have m7 : q7 ∉ F := alX.ne n2
        generalize upd (upd (upd (upd (upd (upd Hx q0 (.lst [])) qQ (.dK [])) qQ (.dK (mergeK [] [(Sum.inr ("Q" : Str), V.int 0)]))) q7 (.dK [])) q7 (.dK (mergeK [] [(Sum.inl (7 : Int), V.int 0)]))) qb (.lst [V.non, V.int 0, V.ref q0, V.str "", V.ref qQ, V.ref q7]) = H7 at e70 e7Q e77 e7b k7 ⊢
        have x7 : LamX.ExtN Hx H7 := ext_of k7
        have bad7 : ∀ v ∈ [V.non, V.int 0, V.ref q0, V.str "", V.ref qQ, V.ref q7], Wth F H7 h (arcsBy A ys) v := by
          intro v hv
          simp only [List.mem_cons, List.not_mem_nil, or_false] at hv
          rcases hv with e | e | e | e | e | e <;> subst e
          · exact Wth.flat (d := .none) .non (fun a z => by cases z) (fun ds z => by cases z) rfl rfl
          · exact Wth.flat (.int 0) (fun a z => by cases z) (fun ds z => by cases z) rfl (by decide +kernel)
          · exact Wth.lst e70 m0 .nil (by decide +kernel)
          · exact Wth.flat (.str "") (fun a z => by cases z) (fun ds z => by cases z) rfl (by decide +kernel)
          · refine Wth.one (k := .inr "Q") e7Q mQ (.int 0) ?_ (fun z => by injection z with z; exact absurd z (by decide)) (by decide +kernel)
            show (decide (("Q" : Str) ∈ (arcsBy A ys).map (·.1)) && _ && true) = false
            rw [arcsBy_names, decide_eq_false (fun z => nQ (py.mem_iff.mp z))]
            rfl
          · exact Wth.one (k := .inl 7) e77 m7 (.int 0) rfl (fun z => by cases z) (by decide +kernel)
        walk_at "st"
        have iA7 : Im F H7 va (arcsD A) := Im.rx (ext_rx (xHx.trans x7)) _ iA
        have inv : ∃ a kvs, va = .ref a ∧ Rd H7 a (.dK kvs) ∧ ImKv F H7 kvs (kvsD A) := by
          cases iA7 with
          | @dct a kvs _ na rd nd ik => exact ⟨a, kvs, rfl, rd, ik⟩
        obtain ⟨aA, kvA, rfl, rdA, ikA⟩ := inv
        refine ⟨aA, kvA, A.map (·.1), rfl, rdA, kvs_keys ikA, by rw [List.length_map]; omega, fun zs pz pzp szs npz => ?_⟩
        walk_at "st"
        refine ⟨pz, zs.map .str, rfl, .inl (.of upd_same), fun p8 np8 => ⟨p8, rfl, ⟨_, .inl (.of upd_same)⟩, ?_⟩⟩
        have k8 : ∀ b o, H7 b = some o → (upd (upd H7 pz (.lst (zs.map V.str))) p8 (.lst (cutV (zs.map V.str) none (some 1)))) b = some o := fun b o e => fresh1 np8 b o (fresh1 npz b o e)
        have e8 := upd_same (H := upd H7 pz (.lst (zs.map V.str))) (a := p8) (o := .lst (cutV (zs.map V.str) none (some 1)))
        generalize upd (upd H7 pz (.lst (zs.map V.str))) p8 (.lst (cutV (zs.map V.str) none (some 1))) = H8 at k8 e8 ⊢
        have x8 : LamX.ExtN H7 H8 := ext_of k8
        have tb8 : LamX.Tabs [(P0, (("_law_d_refused" : Str) ++ ".<locals>.") ++ "<lambda>")] H8 := tbx.ext fun b o e => k8 b o (k7 b o e)
        have cs : ∀ v ∈ cutV (zs.map V.str) none (some 1), ∃ x ∈ zs, v = .str x := fun v hv => by
          unfold cutV at hv
          obtain ⟨x, hx, rfl⟩ := List.mem_map.mp (List.mem_of_mem_drop (List.mem_of_mem_take hv))
          exact ⟨x, hx, rfl⟩
        have cl : (cutV (zs.map V.str) none (some 1)).length ≤ 40 := Nat.le_trans (cutV_length _ _ _) (by rw [List.length_map, pzp.length_eq, List.length_map]; exact lA)
        generalize cutV (zs.map V.str) none (some 1) = cz at e8 cs cl ⊢
        refine for_runs (runs_list (K := K) (a := p8) (xs := cz)) (fun i σ H' => ∃ (y4 y6 y7 : Option V) (qb : Addr) (bs : List V), σ = [some (V.int h), some (V.ref aA), some vd, some (V.ref r), y4, some (V.ref qb), y6, y7] ∧ LamX.ExtN H8 H' ∧ LamX.Tabs [(P0, (("_law_d_refused" : Str) ++ ".<locals>.") ++ "<lambda>")] H' ∧ H' qb = some (.lst bs) ∧ bs.length ≤ 6 + 6 * i ∧ ∀ v ∈ bs, Wth F H' h (arcsBy A ys) v) ?_ (fun i σ H' ⟨_, _, _, _, _, _, g, _⟩ => .inl (.of (g p8 _ e8 (fun ps z => by cases z)))) ?_ ?_
        · exact ⟨_, _, _, qb, _, rfl, .refl _, tb8, k8 _ _ e7b, by simp, fun v hv => (bad7 v hv).ext x8⟩
        · rintro i σ _ x H9 hi ⟨y4, y6, y7, qb, bs, rfl, g9, tb9, eb, lb, hb⟩ ⟨rfl, ex⟩
          obtain ⟨nm, hnm, rfl⟩ := cs x (List.mem_of_getElem? ex)
          walk_at "st"
          intro pi npi
          refine ⟨show 6 ≤ sizeLine by decide, fun p1 np1 => ⟨p1, rfl, ⟨_, .inl (.of upd_same)⟩, fun Dd nD => ?_⟩⟩
          have kB : ∀ b o, H9 b = some o → (upd (upd H9 pi (.lst [.int 0])) p1 (.lst [V.int (-1), .int h, .non, .bl true, .str "0", .ref pi])) b = some o := fun b o e => fresh1 np1 b o (fresh1 npi b o e)
          have ei : (upd (upd H9 pi (.lst [.int 0])) p1 (.lst [V.int (-1), .int h, .non, .bl true, .str "0", .ref pi])) pi = some (.lst [.int 0]) := fresh1 np1 _ _ upd_same
          have e1 : (upd (upd H9 pi (.lst [.int 0])) p1 (.lst [V.int (-1), .int h, .non, .bl true, .str "0", .ref pi])) p1 = some (.lst [V.int (-1), .int h, .non, .bl true, .str "0", .ref pi]) := upd_same
          have nD : (upd (upd H9 pi (.lst [.int 0])) p1 (.lst [V.int (-1), .int h, .non, .bl true, .str "0", .ref pi])) Dd = none := nD
          generalize upd (upd H9 pi (.lst [.int 0])) p1 (.lst [V.int (-1), .int h, .non, .bl true, .str "0", .ref pi]) = HB at kB ei e1 nD ⊢
          have xB : LamX.ExtN H HB := (((xHx.trans x7).trans x8).trans g9).trans (ext_of kB)
          have alB := alx xB
          have mi : pi ∉ F := (alx (((xHx.trans x7).trans x8).trans g9)).ne npi
          refine lc_runs (runs_list (K := K) (a := p1) (xs := [V.int (-1), .int h, .non, .bl true, .str "0", .ref pi])) (fun i H' => ∃ acc, H' Dd = some (.lst acc) ∧ acc.length = i ∧ (∀ b o, HB b = some o → H' b = some o) ∧ LamX.Tabs [(P0, (("_law_d_refused" : Str) ++ ".<locals>.") ++ "<lambda>")] H' ∧ ∀ v ∈ acc, Wth (Dd :: F) H' h (arcsBy A ys) v) ?_ (fun i H' ⟨_, _, _, k, _⟩ => .inl (.of (k p1 _ e1))) ?_ ?_
          · exact ⟨[], upd_same, rfl, fresh1 nD, (tb9.ext kB).ext (fresh1 nD), fun v hv => by cases hv⟩
          · rintro i Hy x H' hi ⟨acc, eD, la, ky, ty, wa⟩ ⟨rfl, ex⟩
            walk_at "st"
            refine ⟨rfl, ?_⟩
            walk_at "st"
            intro pd npd
            refine ⟨_, rfl, _, rfl, upd_same, [(.inr nm, x)], rfl, show 1 ≤ 15 by decide, ?_⟩
            have e2 : (upd (upd H' pd (.dK [])) pd (.dK (mergeK [] [(Sum.inr nm, x)]))) pd = some (.dK [(.inr nm, x)]) := upd_same
            have kc := fresh2 (w := .dK []) (w2 := .dK (mergeK [] [(Sum.inr nm, x)])) npd
            generalize upd (upd H' pd (.dK [])) pd (.dK (mergeK [] [(Sum.inr nm, x)])) = HC at e2 kc ⊢
            have eD2 := kc _ _ eD
            have mdF : pd ∉ Dd :: F := fun z => by
              rcases List.mem_cons.mp z with z | z
              · rw [z, eD] at npd; cases npd
              · exact (alx (xB.trans (ext_of ky))).ne npd z
            have miD : pi ∉ Dd :: F := fun z => by
              rcases List.mem_cons.mp z with z | z
              · rw [z, nD] at ei; cases ei
              · exact mi z
            have okn := ra.ok.names _ (arcOf_in (pzp.mem_iff.mp hnm))
            have nl8 : nm.length ≤ 8 := okn.hi
            have smk : ∀ d, sm d = true → sm (.dict [(.str nm, d)]) = true := fun d hd => by simp [sm, smKv, hd]; omega
            have key : ∃ d, Im (Dd :: F) HC x d ∧ betB d 0 (h - 1) = false ∧ sm d = true := by
              have m := List.mem_of_getElem? ex
              simp only [List.mem_cons, List.not_mem_nil, or_false] at m
              rcases m with e | e | e | e | e | e <;> subst e
              · exact ⟨.int (-1), .int _, by simp [betB], rfl⟩
              · exact ⟨.int h, .int _, by simp [betB]; omega, by rw [sm]; exact decide_eq_true (Nat.lt_of_le_of_lt (show h.natAbs ≤ 1000 by omega) (by decide))⟩
              · exact ⟨.none, .non, rfl, rfl⟩
              · exact ⟨.bool true, .bl _, rfl, rfl⟩
              · exact ⟨.str "0", .str _, rfl, by decide +kernel⟩
              · exact ⟨.list [.int 0], .lst miD (.inl (kc _ _ (ky _ _ ei))) (.cons (.int _) .nil), rfl, by decide +kernel⟩
            obtain ⟨d, im, hbt, sd⟩ := key
            refine ⟨acc, eD2, Nat.lt_of_lt_of_le (show acc.length < 1000 by have : i < 6 := hi; omega) (by decide), acc ++ [.ref pd], upd_same, by rw [List.length_append, la]; rfl, fun b o e => by rw [upd_ne (ne_of_none e nD)]; exact kc b o (ky b o e), tabs_put (ty.ext kc) eD2, fun v hv => ?_⟩
            rcases List.mem_append.mp hv with z | z
            · exact ((wa v z).ext (ext_of kc)).put
            · rw [List.mem_singleton.mp z]
              refine (Wth.one (k := .inr nm) e2 mdF im ?_ (fun z => by injection z with z; exact name_noLate okn z) (smk d sd)).put
              show (decide (nm ∈ (arcsBy A ys).map (·.1)) && driftB h [(.str nm, d)] nm && true) = false
              have : driftB h [(.str nm, d)] nm = false := by unfold driftB; rw [look_cons, if_pos rfl]; exact hbt
              rw [this, Bool.and_false]
              rfl
          · rintro Hy ⟨acc, eD, la, ky, ty, wa⟩
            walk_at "st"
            refine ⟨qb, Dd, bs, acc, rfl, rfl, .inl (.of (ky _ _ (kB _ _ eb))), .inl (.of eD), Nat.le_trans (show bs.length + acc.length ≤ 1000 by have : i < cz.length := hi; rw [la]; simp only [List.length_cons, List.length_nil]; omega) (by decide), fun pn npn => ?_⟩
            have kn := fresh1 (w := .lst (bs ++ acc)) npn
            have k9n : ∀ b o, H9 b = some o → (upd Hy pn (.lst (bs ++ acc))) b = some o := fun b o e => kn b o (ky b o (kB b o e))
            refine ⟨_, _, _, pn, bs ++ acc, rfl, g9.trans (ext_of k9n), ty.ext kn, upd_same, by rw [List.length_append, la]; simp only [List.length_cons, List.length_nil]; omega, fun v hv => ?_⟩
            rcases List.mem_append.mp hv with z | z
            · exact (hb v z).ext (ext_of k9n)
            · exact ((wa v z).ext (ext_of kn)).less
        · rintro σ H9 ⟨y4, y6, y7, qb, bs, rfl, g9, tb9, eb, lb, hb⟩
          walk_at "st"
          refine ⟨qb, rfl, ⟨_, .inl (.of eb)⟩, fun Dd nD => ?_⟩
          have xH9 : LamX.ExtN H H9 := ((xHx.trans x7).trans x8).trans g9
          refine lc_runs (runs_list (K := K) (a := qb) (xs := bs)) (fun i H' => H' Dd = some (.lst (List.replicate i (V.bl true))) ∧ LamX.ExtN H9 H' ∧ LamX.Tabs [(P0, (("_law_d_refused" : Str) ++ ".<locals>.") ++ "<lambda>")] H') ?_ (fun i H' ⟨_, g, _⟩ => .inl (.of (g qb _ eb (fun ps z => by cases z)))) ?_ ?_
          · exact ⟨upd_same, ext_of (fresh1 nD), tb9.ext (fresh1 nD)⟩
          · rintro i Hy x H' hi ⟨eD, gy, ty⟩ ⟨rfl, ex⟩
            walk_at "st"
            refine ⟨rfl, ?_⟩
            walk_at "st"
            refine ⟨ty, x, rfl, fun H1 g1 t1 => ?_⟩
            have gg := gy.trans g1
            have rR1 : RingR F H1 C r h (arcsBy A ys) := by
              obtain ⟨nr, dx, w, e1, im⟩ := rR6
              have g61 : LamX.ExtN H6 H1 := (((gx.trans x7).trans x8).trans g9).trans gg
              exact ⟨nr, dx, w, g61 _ _ e1 (fun ps z => by cases z), Im.rx (ext_rx g61) _ im⟩
            have alF := alx (xH9.trans gg)
            have iD1 : Im F H1 vd (numsD D) := Im.rx (ext_rx (xH9.trans gg)) _ iD
            refine met_wishes rR1 (by unfold arcsBy; rw [List.length_map, py.length_eq, List.length_map]; exact lA) (dr.by_ py) ((hb x (List.mem_of_getElem? ex)).ext gg) (fun p H2 k2 ep => ?_) (fun E k z => ⟨_, rfl, _, rfl, ?_⟩)
            · walk_at "st"
              intro p2 np2
              refine s_eqD (w := "wishes") (b := true) (by rw [upd_ne (ne_of_none ep np2)]; exact ep) upd_same shaped_wishes ?_
              have kk : ∀ b o, H1 b = some o → (upd H2 p2 (.lst [.str "wishes", .bl true])) b = some o := fun b o e => by rw [upd_ne (ne_of_none (k2 b o e) np2)]; exact k2 b o e
              have eD4 := kk _ _ (g1 _ _ eD (fun ps z => by cases z))
              refine ⟨_, eD4, ?_, ?_, ?_, ?_⟩
              · rw [List.length_replicate]; exact Nat.lt_of_lt_of_le (show i < 1000 by have : i < bs.length := hi; omega) (by decide)
              · rw [upd_same, List.replicate_succ']
              · exact fun b o e nt => by rw [upd_ne (ne_of_none e nD)]; exact kk b o (gg b o e nt)
              · exact tabs_put (t1.ext kk) eD4
            · walk_at "st"
              refine ok_dictD (C := C) (M := []) alF (.cons (ShR.of (C := C) (M := []) (x := .d (numsD D)) iD1) .nil) (w_copyN (k := fun o => o = .m (numsKv D)) rfl) fun pA o H3 npA gA hpA noA eo => ?_
              subst eo
              exact ⟨_, rfl, z (.ref pA) H3 (fun b o e => gA.kp b o (by simp) e) (NewO.val (C := C) (M := []) noA (alF.ne npA))⟩
          · rintro Hy ⟨eD, gy, ty⟩
            walk_at "st"
            refine ⟨Dd, List.replicate bs.length true, rfl, .inl (.of (by rw [eD, List.map_replicate])), ?_⟩
            rw [show (List.replicate bs.length true).all id = true by simp]
            exact q _ (xH9.trans gy) ty

theorem rel_none {C : Addr} {F M : List Addr} {H : Hp} {σ : L2.St} {m n : Nat} (al : Al F H) (mf : ∀ a ∈ M, a ∈ F) (sp : ∀ s ∈ M, Spr H s n) (ln : σ.length = m) : Rel C F M [] H σ (List.replicate m none) n := by
  have no : ∀ (i : Nat) (o : DO), (List.replicate m (none : Option DO))[i]? = some (some o) → False := fun i o e => by
    rw [List.getElem?_replicate] at e
    split at e <;> cases e
  exact ⟨by simpa using al, mf, by simp, sp, by rw [ln, List.length_replicate], fun i o e => (no i o e).elim, fun i j o o' a hij e1 _ _ _ _ _ => (no i o e1).elim⟩
theorem TDS.seq {C : Addr} {F M S : List Addr} {H : Hp} {σ : L2.St} {δ : DSt} {n : Nat} {ts tb : TS} {ds : DTS} {D : Ends} {N : DSt → Nat → Prop} {T : DV → Nat → Prop} (h : TDS C ts ds) (r : Rel C F M S H σ δ n) (hd : ds { nx := N, rt := T } δ n)
    (hn : ∀ S' H' σ' δ' n', Stp M S H S' H' → Rel C F M S' H' σ' δ' n' → N δ' n' → tb D σ' H')
    (hr : ∀ v x S' H' n', Stp M S H S' H' → (∀ s ∈ M, Spr H' s n') → ShV C (S' ++ F) M H' v x → T x n' → D.rt v H') : tSeq ts tb D σ H := h (D := { D with nx := tb D }) (DD := { nx := N, rt := T }) r hd hn hr (fun _ _ _ _ _ _ _ z => z.elim) (fun _ _ _ _ _ _ _ z => z.elim)
theorem rel_law {C s a : Addr} {H : Hp} (hs : Spr H s 0) (σ : L2.St) {y : Option V} {ys : List (Option V)} (e : σ = some (.ref a) :: y :: some (.ref s) :: ys ∧ ys.length = 7) : Rel C [s] [s] [] H σ [some (.v (.raw (.ref a))), none, some (.v .s), none, none, none, none, none, none, none] 0 := by
  obtain ⟨rfl, hl⟩ := e
  have r0 : Rel C [s] [s] [] H (some (.ref a) :: y :: some (.ref s) :: ys) (List.replicate 10 none) 0 := rel_none (fun b hb => by rw [List.mem_singleton.mp hb]; exact hs.al) (fun _ h => h) (fun b hb => by rw [List.mem_singleton.mp hb]; exact hs) (by simp [hl])
  exact (r0.set (i := 0) (x := .raw (.ref a)) (v := .ref a) rfl).set (i := 2) (x := .s) (v := .ref s) ⟨s, rfl, rfl⟩
theorem sixty_ok {h : Int} {A : Arcs} (ra : RingOk h A) : RingOk 60 ((A.map (·.1)).map fun x => (x, (arcOf A x).1 % 60, 1 + (arcOf A x).2 % 60)) := by
  have e1 : ((A.map (·.1)).map fun x => (x, (arcOf A x).1 % 60, 1 + (arcOf A x).2 % 60)).map (·.1) = A.map (·.1) := by rw [List.map_map]; exact (List.map_congr_left fun _ _ => rfl).trans (List.map_id _)
  refine ⟨⟨fun p hp => ?_, by rw [e1]; exact ra.ok.nd, fun p hp => ?_, fun p hp => ?_⟩, by rw [List.length_map, List.length_map]; exact ra.ln, by decide, by decide⟩
  · obtain ⟨x, hx, rfl⟩ := List.mem_map.mp hp
    exact ra.ok.names (x, arcOf A x) (arcOf_in hx)
  · obtain ⟨x, hx, rfl⟩ := List.mem_map.mp hp
    exact ⟨Int.emod_nonneg _ (by decide), Int.emod_lt_of_pos _ (by decide)⟩
  · obtain ⟨x, hx, rfl⟩ := List.mem_map.mp hp
    have := Int.emod_nonneg (arcOf A x).2 (show (60 : Int) ≠ 0 by decide)
    have := Int.emod_lt_of_pos (arcOf A x).2 (show (0 : Int) < 60 by decide)
    simp only
    omega
theorem sixty_eq (A : Arcs) : PyData.dict (List.map (fun x => (PyData.str x, arcD ((arcOf A x).fst % 60, 1 + (arcOf A x).snd % 60))) (List.map (fun x => x.fst) A)) = arcsD ((A.map (·.1)).map fun x => (x, (arcOf A x).1 % 60, 1 + (arcOf A x).2 % 60)) := by
  unfold arcsD kvsD
  rw [List.map_map (l := A.map (·.1))]
  rfl
theorem len10 : ∀ (σ : L2.St), σ.length = 10 → ∃ x0 x1 x2 x3 x4 x5 x6 x7 x8 x9, σ = [x0, x1, x2, x3, x4, x5, x6, x7, x8, x9]
  | [x0, x1, x2, x3, x4, x5, x6, x7, x8, x9], _ => ⟨_, _, _, _, _, _, _, _, _, _, rfl⟩
theorem wish_nil {h : Int} {A : Arcs} : WishOk h A [] := ⟨by decide, by simp, by simp, by simp⟩
theorem due_nil {h : Int} {A : Arcs} {D : Nums} (z1 : 1 ≤ h) : dueD h A D [] [] = .tuple [.str "yes", .int 0] := by
  have : firstDay h A D [] [] = ((0 : Nat) : Int) := first_of (show ((0 : Nat) : Int) < h by omega) rfl (fun j hj => by omega)
  show PyData.tuple [.str "yes", .int (firstDay h A D [] [])] = _
  rw [this]; rfl
def A12 : Arcs := [("a", 0, 1), ("b", 1, 1), ("c", 5, 1)]
def D12 : Nums := [("a", 3), ("b", 4), ("c", 6)]
theorem ok12 : RingOk 12 A12 := ⟨⟨fun a ha => by
  simp only [A12, List.mem_cons, List.not_mem_nil, or_false] at ha
  rcases ha with e | e | e <;> rw [e]
  · exact (show ("a" : Str) = ⟨#[97]⟩ by decide +kernel) ▸ NameOk.one (by decide)
  · exact (show ("b" : Str) = ⟨#[98]⟩ by decide +kernel) ▸ NameOk.one (by decide)
  · exact (show ("c" : Str) = ⟨#[99]⟩ by decide +kernel) ▸ NameOk.one (by decide), by decide +kernel, by decide +kernel, by decide +kernel⟩, by decide, by decide, by decide⟩
theorem dr12 : DriftOk 12 A12 D12 := ⟨.refl _, by decide +kernel⟩

theorem ok_law {P : Program} {w : World} {K : PySem.W.Frag} {mg : Str → Option Value} {base : Heap} (T : Bn mg)
    {C : Addr} (RC : RingC K mg C)
    (C_Lspring : Df P w K mg base CX0 1 "_law_spring" ["script", "turn"] (sp_Lspring K))
    (D_Lr_drawn : Df P w K mg base CX0 5 "_law_r_drawn" ["spring", "many"] (spW C W_Lr_drawn))
    (D_Lpick : Df P w K mg base CX0 2 "_law_pick" ["spring", "some"] (spW C W_Lpick))
    (D_Ld_drifts : Df P w K mg base CX0 3 "_law_d_drifts" ["spring", "hours", "arcs"] (spW C W_Ld_drifts))
    (D_Ld_asked : Df P w K mg base CX0 14 "_law_d_asked" ["spring", "hours", "arcs", "drifts", "wishes"] (spW C W_Ld_asked))
    (D_Ld_wishes : Df P w K mg base CX0 3 "_law_d_wishes" ["spring", "hours", "arcs", "drifts"] (spW C W_Ld_wishes))
    (D_Lsame : Df P w K mg base CX0 13 "_law_same" ["found", "due"] (spW C W_Lsame))
    (D_all_start : Df P w K mg base CX0 5 "all_start" ["ring", "drifts", "wishes"] (spW C W_all_start))
    (C_new_Ring : C8.Mak P w K mg base 4 "Ring" C (sp_Ring_init K C) [])
    (D_Lw_names : Df P w K mg base CX0 4 "_law_w_names" ["spring", "many"] (spW C W_Lw_names))
    (D_Ldraw : Df P w K mg base CX0 1 "_law_draw" ["spring", "many"] (spW C W_Ldraw))
    {P0 : Addr} (C_Ld_refused : DfA (GG 8) P w K mg base "_law_d_refused" ["hours", "arcs", "drifts"] (sp_Ld_refused K C P0))
    {f : Addr} {fd : FuncData} (F : FunD K "law" "law" (defArgs s_law) (defBody s_law) (defScope s_law) [] [] f fd) :
    FnA (GG 16) P w K mg base f fd ["script"] (sp_law K C P0) := by
  refine okA true F sc_law (fun vs H Q h => ?_) (fun A gA => gA.depth) (fun _ A gA => gA.1.hd) (fun cdv A outer s H vs Q gA h => ?_)
  · obtain ⟨a, ns, rfl, _⟩ := h
    rfl
  have hr := gA.1.deeper (envOfC "law" (defScope s_law) s.heap.objs.size f cdv)
  have gJ := gA.deeper (envOfC "law" (defScope s_law) s.heap.objs.size f cdv)
  · obtain ⟨a, ns, rfl, ha, hl, h0, q⟩ := h
    refine ⟨_, PSs.nox (pss_cons (ps_for PassesOwn.never rfl (pi_range1 (by rfl) T.range (pa_cons pe_int pa_nil)) (pg_name (i := 1) sc_law.nd rfl (Or.inl rfl))
      (pss_cons (ps_set (i := 2) sc_law.nd rfl (Or.inr rfl) (pe_df C_Lspring hr (pa_cons (pv 0) (pa_cons (pv 1) pa_nil))))
    (pss_cons (ps_asg (pe_df D_Lr_drawn hr (pa_cons (pv 2) (pa_cons (pe_df D_Lpick hr (pa_cons (pv 2) (pa_cons (pe_lst (pa_cons pe_int (pa_cons pe_int (pa_cons pe_int (pa_cons pe_int (pa_cons pe_int pa_nil)))))) pa_nil))) pa_nil))) (kgtup (n := 2) K rfl (pgs_cons (pg_name (i := 3) sc_law.nd rfl (Or.inl rfl)) (pgs_cons (pg_name (i := 4) sc_law.nd rfl (Or.inr rfl)) pgs_nil))))
    (pss_cons (ps_if (pt_cmpR op_gt (pv 3) pe_int (nomark _)) (pss_one (ps_asg (pe_tup (pa_cons pe_int (pa_cons (pe_callTy (kdictP K) (by rfl) T.dict (by decide +kernel) (pa_cons (pe_lockU (pe_lc (own := [("name", 9)]) (tt := tYes) rfl sc_law.nd (pi_keys (pv 4)) (blkOk_by (N := n_law) (sc := defScope s_law) (by decide +kernel)) (fun _ _ _ _ _ => (pg_name (i := 9) sc_law.nd rfl (Or.inl rfl))) (fun _ _ _ _ _ => pts_nil) (fun _ _ _ _ _ => (pe_tup (pa_cons (pv 9) (pa_cons (pe_tup (pa_cons (pe_op op_mod (pe_ix (kx_tup K) (pe_dget (hu_of hr) (pv 4) (pv 9) (fun _ _ => rfl)) pe_int (fun _ _ => rfl)) pe_int) (pa_cons (pe_op op_add pe_int (pe_op op_mod (pe_ix (kx_tup K) (pe_dget (hu_of hr) (pv 4) (pv 9) (fun _ _ => rfl)) pe_int (fun _ _ => rfl)) pe_int)) pa_nil))) pa_nil)))))) pa_nil)) pa_nil))) (kgtup (n := 2) K rfl (pgs_cons (pg_name (i := 3) sc_law.nd rfl (Or.inl rfl)) (pgs_cons (pg_name (i := 4) sc_law.nd rfl (Or.inr rfl)) pgs_nil))))) pss_nil)
    (pss_cons (ps_set (i := 5) sc_law.nd rfl (Or.inl rfl) (pe_df D_Ld_drifts hr (pa_cons (pv 2) (pa_cons (pv 3) (pa_cons (pv 4) pa_nil)))))
    (pss_cons (ps_for PassesOwn.never rfl (pi_range1 (by rfl) T.range (pa_cons pe_int pa_nil)) (pg_name (i := 6) sc_law.nd rfl (Or.inl rfl))
      (pss_one (ps_if (pt_not (pt_val (pe_df D_Ld_asked hr (pa_cons (pv 2) (pa_cons (pv 3) (pa_cons (pv 4) (pa_cons (pv 5) (pa_cons (pe_df D_Ld_wishes hr (pa_cons (pv 2) (pa_cons (pv 3) (pa_cons (pv 4) (pa_cons (pv 5) pa_nil))))) pa_nil)))))))) (pss_one (ps_ret pe_bl)) pss_nil)))
    (pss_one (ps_if (PW.pt (pw_or (pt_not (pt_val (pe_dfA C_Ld_refused (⟨gJ.1.mono (by decide), gJ.2⟩ : GG 8 _) (pa_cons (pv 3) (pa_cons (pv 4) (pa_cons (pv 5) pa_nil)))))) (pw_or1 (pt_not (pt_val (pe_df D_Lsame hr (pa_cons (pe_df D_all_start hr (pa_cons (C8.pe_mk C_new_Ring hr (by first | decide | omega) rfl (pa_cons (pv 3) (pa_cons (pe_callTy kdictD (by rfl) T.dict (by decide +kernel) (pa_cons (pv 4) pa_nil)) pa_nil))) (pa_cons (pe_callTy kdictD (by rfl) T.dict (by decide +kernel) (pa_cons (pv 5) pa_nil)) (pa_cons pe_dnewK pa_nil)))) (pa_cons (pe_tup (pa_cons pe_str (pa_cons pe_int pa_nil))) pa_nil)))))))) (pss_one (ps_ret pe_bl)) pss_nil))))))))
    (pss_cons (ps_set (i := 2) sc_law.nd rfl (Or.inr rfl) (pe_df C_Lspring hr (pa_cons (pv 0) (pa_cons pe_int pa_nil))))
    (pss_cons (ps_set (i := 4) sc_law.nd rfl (Or.inr rfl) (pe_callTy (kdictP K) (by rfl) T.dict (by decide +kernel) (pa_cons (pe_lc (own := [("name", 9)]) (tt := tYes) rfl sc_law.nd (ki_list K (pe_df D_Lw_names hr (pa_cons (pv 2) (pa_cons pe_int pa_nil)))) (blkOk_by (N := n_law) (sc := defScope s_law) (by decide +kernel)) (fun _ _ _ _ _ => (pg_name (i := 9) sc_law.nd rfl (Or.inl rfl))) (fun _ _ _ _ _ => pts_nil) (fun _ _ _ _ _ => (pe_tup (pa_cons (pv 9) (pa_cons (pe_tup (pa_cons (pe_df D_Ldraw hr (pa_cons (pv 2) (pa_cons pe_int pa_nil))) (pa_cons (pe_op op_add pe_int (pe_df D_Ldraw hr (pa_cons (pv 2) (pa_cons pe_int pa_nil)))) pa_nil))) pa_nil))))) pa_nil)))
    (pss_cons (ps_set (i := 5) sc_law.nd rfl (Or.inl rfl) (pe_df D_Ld_drifts hr (pa_cons (pv 2) (pa_cons pe_int (pa_cons (pv 4) pa_nil)))))
    (pss_cons (ps_if (pt_not (pt_val (pe_df D_Ld_asked hr (pa_cons (pv 2) (pa_cons pe_int (pa_cons (pv 4) (pa_cons (pv 5) (pa_cons (pe_df D_Ld_wishes hr (pa_cons (pv 2) (pa_cons pe_int (pa_cons (pv 4) (pa_cons (pv 5) pa_nil))))) pa_nil)))))))) (pss_one (ps_ret pe_bl)) pss_nil)
    (pss_cons (ps_set (i := 4) sc_law.nd rfl (Or.inr rfl) (pe_callTy (kdictP K) (by rfl) T.dict (by decide +kernel) (pa_cons (pe_lc (own := [("name", 9)]) (tt := tYes) rfl sc_law.nd (ki_list K (pe_df D_Lw_names hr (pa_cons (pv 2) (pa_cons pe_int pa_nil)))) (blkOk_by (N := n_law) (sc := defScope s_law) (by decide +kernel)) (fun _ _ _ _ _ => (pg_name (i := 9) sc_law.nd rfl (Or.inl rfl))) (fun _ _ _ _ _ => pts_nil) (fun _ _ _ _ _ => (pe_tup (pa_cons (pv 9) (pa_cons (pe_tup (pa_cons (pe_df D_Ldraw hr (pa_cons (pv 2) (pa_cons pe_int pa_nil))) (pa_cons (pe_op op_add pe_int (pe_df D_Ldraw hr (pa_cons (pv 2) (pa_cons pe_int pa_nil)))) pa_nil))) pa_nil))))) pa_nil)))
    (pss_cons (ps_set (i := 5) sc_law.nd rfl (Or.inl rfl) (pe_df D_Ld_drifts hr (pa_cons (pv 2) (pa_cons pe_int (pa_cons (pv 4) pa_nil)))))
    (pss_cons (ps_for PassesOwn.never rfl (pi_range1 (by rfl) T.range (pa_cons pe_int pa_nil)) (pg_name (i := 6) sc_law.nd rfl (Or.inl rfl))
      (pss_one (ps_if (pt_not (pt_val (pe_df D_Ld_asked hr (pa_cons (pv 2) (pa_cons pe_int (pa_cons (pv 4) (pa_cons (pv 5) (pa_cons (pe_df D_Ld_wishes hr (pa_cons (pv 2) (pa_cons pe_int (pa_cons (pv 4) (pa_cons (pv 5) pa_nil))))) pa_nil)))))))) (pss_one (ps_ret pe_bl)) pss_nil)))
    (pss_cons (ps_parG2 (i1 := 7) (i2 := 5) rfl sc_law.nd rfl rfl (by decide) (Or.inl rfl) (Or.inl rfl) (pa_cons (C8.pe_mk C_new_Ring hr (by first | decide | omega) rfl (pa_cons pe_int (pa_cons (pe_disp (pps_cons pe_str (pe_tup (pa_cons pe_int (pa_cons pe_int pa_nil))) (pps_cons pe_str (pe_tup (pa_cons pe_int (pa_cons pe_int pa_nil))) (pps_cons pe_str (pe_tup (pa_cons pe_int (pa_cons pe_int pa_nil))) pps_nil))) (by rfl) (by rfl) (fun z => by cases z) (by decide)) pa_nil))) (pa_cons (pe_disp (pps_cons pe_str pe_int (pps_cons pe_str pe_int (pps_cons pe_str pe_int pps_nil))) (by rfl) (by rfl) (fun z => by cases z) (by decide)) pa_nil)) (by rfl))
    (pss_cons (ps_set (i := 8) sc_law.nd rfl (Or.inl rfl) (pe_lst (pa_cons (pe_df D_all_start hr (pa_cons (pv 7) (pa_cons (pv 5) (pa_cons (pe_disp (pps_cons pe_str pe_int (pps_cons pe_str pe_int pps_nil)) (by rfl) (by rfl) (fun z => by cases z) (by decide)) pa_nil)))) (pa_cons (pe_df D_all_start hr (pa_cons (pv 7) (pa_cons (pv 5) (pa_cons (pe_disp (pps_cons pe_str pe_int (pps_cons pe_str pe_int pps_nil)) (by rfl) (by rfl) (fun z => by cases z) (by decide)) pa_nil)))) (pa_cons (pe_df D_all_start hr (pa_cons (pv 7) (pa_cons (pv 5) (pa_cons (pe_disp (pps_cons pe_str pe_int (pps_cons pe_str pe_int pps_nil)) (by rfl) (by rfl) (fun z => by cases z) (by decide)) pa_nil)))) pa_nil)))))
    (pss_one (ps_ret (pe_df D_Lsame hr (pa_cons (pv 8) (pa_cons (pe_lst (pa_cons (pe_tup (pa_cons pe_str (pa_cons pe_int pa_nil))) (pa_cons (pe_tup (pa_cons pe_str (pa_cons pe_str pa_nil))) (pa_cons (pe_tup (pa_cons pe_str (pa_cons pe_str (pa_cons pe_str pa_nil)))) pa_nil)))) pa_nil))))))))))))))), ?_⟩
    obtain ⟨R, R0, R1, R2⟩ := sql_all ha
    walk_at "go"
    refine ⟨6, rfl, by omega, by omega, ?_⟩
    refine for_runs runs_range (fun i σ H' => ∃ (y1 y2 y3 y4 y5 y6 y7 y8 y9 : Option V), σ = [some (.ref a), y1, y2, y3, y4, y5, y6, y7, y8, y9] ∧ R H' ∧ LamX.Tabs [(P0, (("_law_d_refused" : Str) ++ ".<locals>.") ++ "<lambda>")] H') ?_ (fun _ _ _ _ => trivial) ?_ ?_
    · exact ⟨_, _, _, _, _, _, _, _, _, rfl, R0, fun p hp => by rw [List.mem_singleton.mp hp]; exact LamX.TabS.nil h0⟩
    · rintro i σ _ x H1 hi ⟨y1, y2, y3, y4, y5, y6, y7, y8, y9, rfl, hR, tb⟩ ⟨rfl, rfl⟩
      have hi6 : i < 6 := hi
      walk_at "st"
      refine ⟨a, ns, i, by simp, R1 _ hR, hl, by omega, fun s H2 ns2 g2 hs2 => ?_⟩
      have tb2 := tabs_to tb g2
      have tu2 := TabU.spr tb2 hs2
      have r2 : Rel C [s] [s] [] H2 [some (.ref a), some (.int (0 + (i : Int))), some (.ref s), y3, y4, y5, y6, y7, y8, y9] [some (.v (.raw (.ref a))), none, some (.v .s), none, none, none, none, none, none, none] 0 := rel_law hs2 _ ⟨rfl, rfl⟩
      refine s_name ?_
      refine' TDS.seq (C := C) (F := [s]) (M := [s]) (S := []) (N := fun δ' n' => ∃ h A, δ' = [some (.v (.raw (.ref a))), none, some (.v .s), some (.v (.d (.int h))), some (.v (.d (arcsD A))), none, none, none, none, none] ∧ RingOk h A ∧ A.length ≤ 7 ∧ n' ≤ 1000) (T := fun _ _ => False) ?T r2 ?d ?k (fun _ _ _ _ _ _ _ _ z => z.elim)
      case T => walk_at "td"
      case d =>
        walk_at "ds"
        refine ⟨_, rfl, by omega, by simp, by simp, fun d hd => ?_⟩
        obtain ⟨m, rfl, hm⟩ : ∃ m : Nat, d = .int m ∧ m ≤ 7 := by
          simp only [List.mem_cons, List.not_mem_nil, or_false] at hd
          rcases hd with e | e | e | e | e <;> rw [e]
          · exact ⟨0, rfl, by omega⟩
          · exact ⟨1, rfl, by omega⟩
          · exact ⟨2, rfl, by omega⟩
          · exact ⟨4, rfl, by omega⟩
          · exact ⟨7, rfl, by omega⟩
        walk_at "ds"
        refine ⟨m, rfl, by omega, by omega, fun h A h1 h2 ok lA => ?_⟩
        walk_at "ds"
        exact ⟨h, A, rfl, ⟨ok, by omega, h1, h2⟩, by omega, by omega⟩
      case k =>
      rintro S3 H3 σ3 δ3 n3 g3 r3 ⟨h, A, rfl, ra, lA, b3⟩
      refine' TDS.seq (C := C) (F := [s]) (M := [s]) (S := S3) (N := fun δ' n' => ∃ h A, δ' = [some (.v (.raw (.ref a))), none, some (.v .s), some (.v (.d (.int h))), some (.v (.d (arcsD A))), none, none, none, none, none] ∧ RingOk h A ∧ n' ≤ 1000) (T := fun _ _ => False) ?T r3 ?d ?k (fun _ _ _ _ _ _ _ _ z => z.elim)
      case T => walk_at "td"
      case d =>
        walk_at "ds"
        refine ite_d (fun e => ?_) (fun e => ?_)
        · walk_at "ds"
          refine lcg_map (fun _ => true) (pairP fun x => arcD ((arcOf A x).1 % 60, 1 + (arcOf A x).2 % 60)) ?_ ?_ ?_
          · unfold keysD kvsD; rw [List.length_map, List.length_map]; omega
          · rintro j d acc ed hacc
            have ed2 := ed
            rw [show keysD (kvsD A) = (A.map (·.1)).map .str from arcs_keys A] at ed2
            obtain ⟨x, ex, rfl⟩ := strs_at ed2
            have hx := List.mem_of_getElem? ex
            have ea : lookK (kvsD A) (.inr x) = some (arcD (arcOf A x)) := by rw [look_arcs, if_pos hx]
            walk_at "ds"
            exact ⟨_, rfl, rfl, rfl, lc_yes hacc ed rfl⟩
          · rw [filter_yes, show keysD (kvsD A) = (A.map (·.1)).map .str from arcs_keys A, pairs_P]
            walk_at "ds"
            refine ⟨_, rfl, fun p hp => ?_, ?_, ?_⟩
            · obtain ⟨x, _, rfl⟩ := List.mem_map.mp hp
              exact ⟨.inr x, rfl⟩
            · rw [List.map_map]
              exact nodup_str ra.ok.nd
            walk_at "ds"
            exact ⟨60, _, by rw [sixty_eq], sixty_ok ra, b3⟩
        · exact ⟨h, A, rfl, ra, b3⟩
      case k =>
      rintro S4 H4 σ4 δ4 n4 g4 r4 ⟨h, A, rfl, ra, b4⟩
      refine' TDS.seq (C := C) (F := [s]) (M := [s]) (S := S4) (N := fun δ' n' => ∃ D, δ' = [some (.v (.raw (.ref a))), none, some (.v .s), some (.v (.d (.int h))), some (.v (.d (arcsD A))), some (.v (.d (numsD D))), none, none, none, none] ∧ DriftOk h A D ∧ n' ≤ 2000) (T := fun _ _ => False) ?T r4 ?d ?k (fun _ _ _ _ _ _ _ _ z => z.elim)
      case T => walk_at "td"
      case d =>
        walk_at "ds"
        refine ⟨h, A, rfl, by omega, ra, fun D m dr m1 m2 => ?_⟩
        walk_at "ds"
        exact ⟨D, rfl, dr, by omega⟩
      case k =>
      rintro S5 H5 σ5 δ5 n5 g5 r5 ⟨D, rfl, dr, b5⟩
      refine' TDS.seq (C := C) (F := [s]) (M := [s]) (S := S5) (N := fun δ' n' => ∃ y6, δ' = [some (.v (.raw (.ref a))), none, some (.v .s), some (.v (.d (.int h))), some (.v (.d (arcsD A))), some (.v (.d (numsD D))), y6, none, none, none] ∧ valsB [y6] = true ∧ n' ≤ 10000) (T := fun _ _ => False) ?T r5 ?d ?k (fun _ _ _ _ _ _ _ _ z => z.elim)
      case T => walk_at "td"
      case d =>
        walk_at "ds"
        refine forg (fun j δ n' => ∃ y6, δ = [some (.v (.raw (.ref a))), none, some (.v .s), some (.v (.d (.int h))), some (.v (.d (arcsD A))), some (.v (.d (numsD D))), y6, none, none, none] ∧ valsB [y6] = true ∧ n' ≤ 2000 + 300 * j) ⟨_, rfl, rfl, by omega⟩ ?_ ?_
        · rintro j d δ n' ed ⟨y6, rfl, v6, b6⟩
          obtain ⟨hj, rfl⟩ := intsFrom_some ed
          have hj5 : j < 5 := hj
          walk_at "ds"
          refine ⟨h, A, D, rfl, by omega, ra, dr, fun W m wi m1 m2 => ?_⟩
          walk_at "ds"
          refine ⟨h, A, D, W, rfl, ra, dr, wi, ?_⟩
          walk_at "ds"
          exact ⟨_, rfl, rfl, by omega⟩
        · rintro δ n' ⟨y6, rfl, v6, b6⟩
          exact ⟨_, rfl, v6, by rw [intsFrom_length] at b6; have : (5 : Int).toNat = 5 := rfl; omega⟩
      case k =>
      rintro S6 H6 σ6 δ6 n6 g6 r6 ⟨y6, rfl, v6, b6⟩
      have g26 := (g3.trans g4).trans (g5.trans g6)
      have tu6 := TabU.stp g26 tu2
      have rx6 : Rx [s] H1 H6 := g2.rx.mono0.trans g26.nx.rx
      have r6c := r6.clean (by simpa [valsB] using v6)
      obtain ⟨x0, x1, x2, x3, x4, x5, x6, x7, x8, x9, rfl⟩ := len10 σ6 r6c.ln
      obtain ⟨v0, e0, s0⟩ := r6c.sh 0 _ rfl
      obtain ⟨v2, e2, s2⟩ := r6c.sh 2 _ rfl
      obtain ⟨v3, e3, s3⟩ := r6c.sh 3 _ rfl
      obtain ⟨v4, e4, s4⟩ := r6c.sh 4 _ rfl
      obtain ⟨v5, e5, s5⟩ := r6c.sh 5 _ rfl
      obtain rfl : x3 = some v3 := Option.some.inj e3
      obtain rfl : x4 = some v4 := Option.some.inj e4
      obtain rfl : x5 = some v5 := Option.some.inj e5
      have s4 : Im [s] H6 v4 (arcsD A) := s4
      have s5 : Im [s] H6 v5 (numsD D) := s5
      have s3 : Im [s] H6 v3 (.int h) := s3
      cases s3
      have hs6 := r6c.sp s (by simp)
      refine s_if ?_
      refine s_or ?_
      refine s_not ?_
      refine s_B ?_
      refine s_call ?_
      refine s_cons ?_
      refine s_var rfl ?_
      refine s_cons ?_
      refine s_var rfl ?_
      refine s_cons ?_
      refine s_var rfl ?_
      refine s_nil ?_
      refine ⟨[s], h, A, D, v4, v5, rfl, fun b hb => by rw [List.mem_singleton.mp hb]; exact hs6.al, fun b hb ps z => ?_, tu6.tabs, s4, s5, ra, dr, fun H7 x7 tb7 => ?_⟩
      · rw [List.mem_singleton.mp hb] at z
        obtain ⟨_, _, _, es, _⟩ := hs6.ex
        rw [es] at z; cases z
      refine s_bl ?_
      rw [if_neg (by decide)]
      have r7 := r6c.ext x7 (fun b hb z => by
        rw [List.mem_singleton.mp hb] at z
        obtain ⟨_, _, _, es, _⟩ := hs6.ex
        rw [x7 _ _ es (fun ps y => by cases y)] at z; cases z)
      have hs7 := r7.sp s (by simp)
      refine' TDT.use (C := C) (R := fun b _ _ => b = false) ?T r7 ?d ?k
      case T => walk_at "td"
      case d =>
        walk_at "ds"
        refine ⟨h, A, _, rfl, arcs_self A, ra.ok, ra.ln, ra.h1, ra.h2, fun ys py => ?_⟩
        walk_at "ds"
        refine ⟨h, arcsBy A ys, D, [], rfl, ra.by_ py, dr.by_ py, wish_nil, fun us pu su => ?_⟩
        rw [show us = [] from List.perm_nil.mp pu, due_nil ra.h1]
        walk_at "ds"
        refine ⟨_, rfl, by decide, by decide +kernel, ?_⟩
        walk_at "ds"
        rfl
      case k =>
        rintro b S8 H8 δ8 n8 g8 r8 rfl
        rw [if_neg (by decide)]
        refine s_next ?_
        obtain rfl : x0 = some v0 := Option.some.inj e0
        have s0 : v0 = .ref a := s0
        subst s0
        exact ⟨_, _, _, _, _, _, _, _, _, rfl, R2 s _ _ ns2 hR (rx6.trans ((ext_rx x7).trans g8.nx.rx)), tabs_nx g8.nx hs7 tb7⟩
    · rintro σ H1 ⟨y1, y2, y3, y4, y5, y6, y7, y8, y9, rfl, hR, tb⟩
      walk_at "st"
      refine ⟨a, ns, 6, rfl, R1 _ hR, hl, by omega, fun s H2 ns2 g2 hs2 => ?_⟩
      have r2 : Rel C [s] [s] [] H2 [some (.ref a), y1, some (.ref s), y3, y4, y5, y6, y7, y8, y9] [some (.v (.raw (.ref a))), none, some (.v .s), none, none, none, none, none, none, none] 0 := rel_law hs2 _ ⟨rfl, rfl⟩
      refine s_name ?_
      refine' TDS.use (C := C) (N := fun _ _ => False) (T := fun x _ => x = .d (.bool true)) ?T r2 ?d (fun _ _ _ _ _ _ _ z => z.elim) ?k
      case T => walk_at "td"
      case k =>
        rintro v x S' H' n' g sp sh rfl
        have sh : Im (S' ++ [s]) H' v (.bool true) := sh
        cases sh
        exact q H'
      case d =>
        walk_at "ds"
        refine ⟨40, rfl, by omega, by omega, fun ys ly ny nd => ?_⟩
        walk_at "ds"
        refine lcg (fun i acc n' => ∃ A : Arcs, A.map (·.1) = ys.take i ∧ acc = A.map (fun p => .tuple [.str p.1, arcD p.2]) ∧ (∀ p ∈ A, (0 ≤ p.2.1 ∧ p.2.1 < 60) ∧ 1 ≤ p.2.2 ∧ p.2.2 ≤ 60) ∧ n' ≤ 480 + 2 * i) ⟨[], rfl, rfl, by simp, by omega⟩ ?_ ?_
        · rintro i d acc n' ed ⟨A, e1, rfl, hA, b1⟩
          obtain ⟨x, ex, rfl⟩ := strs_at ed
          have hi := (List.getElem?_eq_some_iff.mp ex).1
          have lA : A.length ≤ 40 := by have := congrArg List.length e1; rw [List.length_map, List.length_take] at this; omega
          refine ⟨by rw [List.length_map]; omega, ?_⟩
          walk_at "ds"
          refine ⟨60, rfl, by omega, by omega, by omega, fun d0 d1 d2 => ?_⟩
          walk_at "ds"
          refine ⟨60, rfl, by omega, by omega, by omega, fun f0 f1 f2 => ?_⟩
          walk_at "ds"
          refine ⟨_, rfl, rfl, A ++ [(x, d0, 1 + f0)], ?_, ?_, ?_, by omega⟩
          · rw [List.map_append, e1, List.take_add_one, ex]; rfl
          · rw [List.map_append]; rfl
          · intro p hp
            rcases List.mem_append.mp hp with z | z
            · exact hA p z
            · rw [List.mem_singleton.mp z]; exact ⟨⟨d1, d2⟩, by show 1 ≤ 1 + f0; omega, by show 1 + f0 ≤ 60; omega⟩
        rintro acc n40 ⟨A, e1, rfl, hA, b1⟩
        rw [List.length_map] at e1 b1
        rw [List.take_length] at e1
        have ra : RingOk 60 A := ⟨⟨fun p hp => ny _ (by rw [← e1]; exact List.mem_map_of_mem hp), by rw [e1]; exact nd, fun p hp => (hA p hp).1, fun p hp => (hA p hp).2⟩, by rw [← List.length_map (f := (·.1)), e1, ly]; decide, by decide, by decide⟩
        walk_at "ds"
        refine ⟨kvsD A, by rw [arcs_pairs], fun p hp => ?_, ?_, ?_⟩
        · obtain ⟨x, _, rfl⟩ := List.mem_map.mp hp
          exact ⟨.inr _, rfl⟩
        · rw [arcs_keys A]
          exact nodup_str ra.ok.nd
        walk_at "ds"
        refine ⟨60, A, rfl, by omega, ra, fun D m dr m1 m2 => ?_⟩
        walk_at "ds"
        refine ⟨60, A, D, rfl, by omega, ra, dr, fun W m2 wi m3 m4 => ?_⟩
        walk_at "ds"
        refine ⟨60, A, D, W, rfl, ra, dr, wi, ?_⟩
        walk_at "ds"
        have b2 : m2 ≤ 1000 := by omega
        refine ⟨4, rfl, by omega, by omega, fun ys ly ny nd => ?_⟩
        walk_at "ds"
        refine lcg (fun i acc n' => ∃ A : Arcs, A.map (·.1) = ys.take i ∧ acc = A.map (fun p => .tuple [.str p.1, arcD p.2]) ∧ (∀ p ∈ A, (0 ≤ p.2.1 ∧ p.2.1 < 1000) ∧ 1 ≤ p.2.2 ∧ p.2.2 ≤ 1000) ∧ n' ≤ 1048 + 2 * i) ⟨[], rfl, rfl, by simp, by omega⟩ ?_ ?_
        · rintro i d acc n' ed ⟨A, e1, rfl, hA, b1⟩
          obtain ⟨x, ex, rfl⟩ := strs_at ed
          have hi := (List.getElem?_eq_some_iff.mp ex).1
          have lA : A.length ≤ 40 := by have := congrArg List.length e1; rw [List.length_map, List.length_take] at this; omega
          refine ⟨by rw [List.length_map]; omega, ?_⟩
          walk_at "ds"
          refine ⟨1000, rfl, by omega, by omega, by omega, fun d0 d1 d2 => ?_⟩
          walk_at "ds"
          refine ⟨1000, rfl, by omega, by omega, by omega, fun f0 f1 f2 => ?_⟩
          walk_at "ds"
          refine ⟨_, rfl, rfl, A ++ [(x, d0, 1 + f0)], ?_, ?_, ?_, by omega⟩
          · rw [List.map_append, e1, List.take_add_one, ex]; rfl
          · rw [List.map_append]; rfl
          · intro p hp
            rcases List.mem_append.mp hp with z | z
            · exact hA p z
            · rw [List.mem_singleton.mp z]; exact ⟨⟨d1, d2⟩, by show 1 ≤ 1 + f0; omega, by show 1 + f0 ≤ 1000; omega⟩
        rintro acc nB ⟨B, e1, rfl, hA, b1⟩
        rw [List.length_map] at e1 b1
        rw [List.take_length] at e1
        have ra : RingOk 1000 B := ⟨⟨fun p hp => ny _ (by rw [← e1]; exact List.mem_map_of_mem hp), by rw [e1]; exact nd, fun p hp => (hA p hp).1, fun p hp => (hA p hp).2⟩, by rw [← List.length_map (f := (·.1)), e1, ly]; decide, by decide, by decide⟩
        walk_at "ds"
        refine ⟨kvsD B, by rw [arcs_pairs], fun p hp => ?_, ?_, ?_⟩
        · obtain ⟨x, _, rfl⟩ := List.mem_map.mp hp
          exact ⟨.inr _, rfl⟩
        · rw [arcs_keys B]
          exact nodup_str ra.ok.nd
        walk_at "ds"
        refine ⟨1000, B, rfl, by omega, ra, fun D m dr m1 m2 => ?_⟩
        walk_at "ds"
        have b3 : m ≤ 2000 := by omega
        refine forg (fun j δ n' => ∃ y6, δ = [some (.v (.raw (.ref a))), none, some (.v .s), none, some (.v (.d (arcsD B))), some (.v (.d (numsD D))), y6, none, none, none] ∧ n' ≤ 2000 + 300 * j) ⟨_, rfl, by omega⟩ ?_ ?_
        · rintro j d δ n' ed ⟨y6, rfl, b6⟩
          obtain ⟨hj, rfl⟩ := intsFrom_some ed
          have hj5 : j < 2 := hj
          walk_at "ds"
          refine ⟨1000, B, D, rfl, by omega, ra, dr, fun W m wi m1 m2 => ?_⟩
          walk_at "ds"
          refine ⟨1000, B, D, W, rfl, ra, dr, wi, ?_⟩
          walk_at "ds"
          exact ⟨_, rfl, by omega⟩
        rintro δ n' ⟨y6, rfl, b6⟩
        walk_at "ds"
        refine ⟨[(.inr "a", .tuple [.int 0, .int 1]), (.inr "b", .tuple [.int 1, .int 1]), (.inr "c", .tuple [.int 5, .int 1])], rfl, by decide, ?_⟩
        rw [show mergeD [(.inr "a", .tuple [.int 0, .int 1]), (.inr "b", .tuple [.int 1, .int 1]), (.inr "c", .tuple [.int 5, .int 1])] = kvsD A12 from rfl]
        walk_at "ds"
        refine ⟨12, A12, _, rfl, arcs_self _, ok12.ok, by decide, by decide, by decide, fun ys py => ?_⟩
        walk_at "ds"
        refine ⟨[(.inr "a", .int 3), (.inr "b", .int 4), (.inr "c", .int 6)], rfl, by decide, ?_⟩
        rw [show mergeD [(.inr "a", .int 3), (.inr "b", .int 4), (.inr "c", .int 6)] = numsKv D12 from rfl]
        walk_at "ds"
        refine ⟨[(.inr "a", .int 9), (.inr "b", .int 5)], rfl, by decide, ?_⟩
        rw [show mergeD [(.inr "a", .int 9), (.inr "b", .int 5)] = numsKv [("a", 9), ("b", 5)] from rfl]
        walk_at "ds"
        refine ⟨12, arcsBy A12 ys, D12, [("a", 9), ("b", 5)], rfl, ok12.by_ py, dr12.by_ py, WishOk.by_ (A := A12) ⟨by decide, by decide +kernel, by decide +kernel, by decide +kernel⟩ py, fun us pu su => ?_⟩
        rw [sorted_one (ys := ["a", "b"]) pu su (by decide +kernel), due_by ok12.ok.nd py (by decide +kernel), show dueD 12 A12 D12 [("a", 9), ("b", 5)] ["a", "b"] = .tuple [.str "yes", .int 7] from rfl]
        walk_at "ds"
        refine ⟨[(.inr "a", .int 1), (.inr "c", .int 5)], rfl, by decide, ?_⟩
        rw [show mergeD [(.inr "a", .int 1), (.inr "c", .int 5)] = numsKv [("a", 1), ("c", 5)] from rfl]
        walk_at "ds"
        refine ⟨12, arcsBy A12 ys, D12, [("a", 1), ("c", 5)], rfl, ok12.by_ py, dr12.by_ py, WishOk.by_ (A := A12) ⟨by decide, by decide +kernel, by decide +kernel, by decide +kernel⟩ py, fun us pu su => ?_⟩
        rw [sorted_one (ys := ["a", "c"]) pu su (by decide +kernel), due_by ok12.ok.nd py (by decide +kernel), show dueD 12 A12 D12 [("a", 1), ("c", 5)] ["a", "c"] = .tuple [.str "alone", .str "a"] from rfl]
        walk_at "ds"
        refine ⟨[(.inr "a", .int 3), (.inr "c", .int 5)], rfl, by decide, ?_⟩
        rw [show mergeD [(.inr "a", .int 3), (.inr "c", .int 5)] = numsKv [("a", 3), ("c", 5)] from rfl]
        walk_at "ds"
        refine ⟨12, arcsBy A12 ys, D12, [("a", 3), ("c", 5)], rfl, ok12.by_ py, dr12.by_ py, WishOk.by_ (A := A12) ⟨by decide, by decide +kernel, by decide +kernel, by decide +kernel⟩ py, fun us pu su => ?_⟩
        rw [sorted_one (ys := ["a", "c"]) pu su (by decide +kernel), due_by ok12.ok.nd py (by decide +kernel), show dueD 12 A12 D12 [("a", 3), ("c", 5)] ["a", "c"] = .tuple [.str "apart", .str "a", .str "c"] from rfl]
        walk_at "ds"
        refine ⟨_, rfl, by decide, by decide +kernel, ?_⟩
        rfl
theorem rz_BadDrifts {w : World} {K : PySem.W.Frag} {h base : Heap} {mg : Str → Option Value} (X : K.In h) (G : h.Ns mainGlobals mg) (hS : mg "super" = none)
    (E : ExF PP K (er_BadDrifts.C K) (er_BadDrifts.I K) "drifts" "BadDrifts.__init__" (defArgs sE_BadDrifts) (defBody sE_BadDrifts) (defScope sE_BadDrifts)) (hg : PySem.W.nsIn K mainGlobals "BadDrifts" = some (some (.ref (er_BadDrifts.C K)))) : Rz PP w K mg base "BadDrifts" (er_BadDrifts.C K) "drifts" := by
  obtain ⟨fd, ok, b⟩ : ∃ fd, FnOk PP w K mg base CX0 0 (er_BadDrifts.I K) fd ["self", "drifts"] (spSup (er_BadDrifts.C K) "drifts") ∧ Binds K fd ["self", "drifts"] [] :=
    ok_sup E hS rfl rfl rfl rfl rfl rfl rfl rfl (by decide +kernel) (fun x hx => (by decide +kernel : ∀ y ∈ (defScope sE_BadDrifts).names, y.2 = .free → y.1 = "__class__") _ (PySem.mem_of_lookup hx) rfl) rfl rfl (by decide +kernel) (by decide +kernel) (by decide +kernel) (fun env => ⟨_, rfl⟩) (fun _ _ _ _ => rfl) (fun _ => rfl) (fun _ => rfl) (by decide +kernel)
      (fun _ _ _ _ _ _ us hl => match us, hl with | [_, _], _ => rfl)
  exact ⟨PySem.W.mg_of X G hg, E.O, ⟨_, fd, E.iC, E.tI, ok, b⟩, E.noF, E.ga, E.gg, E.hdC, E.te⟩
theorem rz_BadWishes {w : World} {K : PySem.W.Frag} {h base : Heap} {mg : Str → Option Value} (X : K.In h) (G : h.Ns mainGlobals mg) (hS : mg "super" = none)
    (E : ExF PP K (er_BadWishes.C K) (er_BadWishes.I K) "wishes" "BadWishes.__init__" (defArgs sE_BadWishes) (defBody sE_BadWishes) (defScope sE_BadWishes)) (hg : PySem.W.nsIn K mainGlobals "BadWishes" = some (some (.ref (er_BadWishes.C K)))) : Rz PP w K mg base "BadWishes" (er_BadWishes.C K) "wishes" := by
  obtain ⟨fd, ok, b⟩ : ∃ fd, FnOk PP w K mg base CX0 0 (er_BadWishes.I K) fd ["self", "wishes"] (spSup (er_BadWishes.C K) "wishes") ∧ Binds K fd ["self", "wishes"] [] :=
    ok_sup E hS rfl rfl rfl rfl rfl rfl rfl rfl (by decide +kernel) (fun x hx => (by decide +kernel : ∀ y ∈ (defScope sE_BadWishes).names, y.2 = .free → y.1 = "__class__") _ (PySem.mem_of_lookup hx) rfl) rfl rfl (by decide +kernel) (by decide +kernel) (by decide +kernel) (fun env => ⟨_, rfl⟩) (fun _ _ _ _ => rfl) (fun _ => rfl) (fun _ => rfl) (by decide +kernel)
      (fun _ _ _ _ _ _ us hl => match us, hl with | [_, _], _ => rfl)
  exact ⟨PySem.W.mg_of X G hg, E.O, ⟨_, fd, E.iC, E.tI, ok, b⟩, E.noF, E.ga, E.gg, E.hdC, E.te⟩
theorem kb_all_start {K : PySem.W.Frag} {fd : FuncData} {f : Addr} (F : FunD K "all_start" "all_start" (defArgs s_all_start) (defBody s_all_start) (defScope s_all_start) [] [] f fd) : KBinds K fd ["ring", "drifts", "wishes"] ["wishes", "drifts", "ring"] revG revG := by
  obtain ⟨oc, od, kV, doc, pm, an, cdv, ct, osl, rfl, _, _⟩ := FunD.rec F
  refine ⟨fun s us ws _ hl => ?_, fun r1 r2 => r1.append r2.reverse⟩
  match us, ws, hl with
  | [], [_, _, _], _ => exact .of_eq rfl
  | [_], [_, _], _ => exact .of_eq rfl
  | [_, _], [_], _ => exact .of_eq rfl
  | [_, _, _], [], _ => exact .of_eq rfl
  | [], [], h => cases h
  | [], [_], h => cases h
  | [], [_, _], h => cases h
  | [], _ :: _ :: _ :: _ :: _, h => simp [revG] at h
  | [_], [], h => cases h
  | [_], [_], h => cases h
  | [_], _ :: _ :: _ :: _, h => simp [revG] at h
  | [_, _], [], h => cases h
  | [_, _], _ :: _ :: _, h => simp [revG] at h
  | [_, _, _], _ :: _, h => simp [revG] at h
  | _ :: _ :: _ :: _ :: _, _, h => simp [revG] at h
theorem facts (w : World) {K : PySem.W.Frag} {h : Heap} {mg : Str → Option Value} {fa : Addr} (X : K.In h) (G : h.Ns mainGlobals mg) (hfa : mg "law" = some (.ref fa)) (c : SaysY PP.main.file faL fnL erL tfL h K) :
    ∃ fd : FuncData, (∀ (s : Shared) (u : Value), BindsTo s fd ⟨[u], []⟩ [("script", u)]) ∧ ∀ base : Heap, K.In base → base.Ns mainGlobals mg → (∀ p ∈ tfL.map (He.cT K), LamX.TabB base mg p.1 p.2) → FnA (GG 16) PP w K mg base fa fd ["script"] (sp_law K (CRg K) (He.cT K ("_law_d_refused", none)).2) := by
  obtain ⟨fd_Ldraw, F_Ldraw⟩ := c.d.def_ 0 (d := d_Ldraw) rfl
  obtain ⟨fd_Lpick, F_Lpick⟩ := c.d.def_ 1 (d := d_Lpick) rfl
  obtain ⟨fd_Lmixed, F_Lmixed⟩ := c.d.def_ 2 (d := d_Lmixed) rfl
  obtain ⟨fd_Lspring, F_Lspring⟩ := c.d.def_ 3 (d := d_Lspring) rfl
  obtain ⟨fd_Lw_name, F_Lw_name⟩ := c.d.def_ 4 (d := d_Lw_name) rfl
  obtain ⟨fd_Lw_names, F_Lw_names⟩ := c.d.def_ 5 (d := d_Lw_names) rfl
  obtain ⟨fd_Lr_lengths, F_Lr_lengths⟩ := c.d.def_ 6 (d := d_Lr_lengths) rfl
  obtain ⟨fd_Lr_drawn, F_Lr_drawn⟩ := c.d.def_ 7 (d := d_Lr_drawn) rfl
  obtain ⟨fd_Lsame, F_Lsame⟩ := c.d.def_ 8 (d := d_Lsame) rfl
  obtain ⟨fd_is_integer, F_is_integer⟩ := c.d.def_ 9 (d := d_is_integer) rfl
  obtain ⟨fd_is_between, F_is_between⟩ := c.d.def_ 10 (d := d_is_between) rfl
  obtain ⟨fd_is_list, F_is_list⟩ := c.d.def_ 11 (d := d_is_list) rfl
  obtain ⟨fd_is_name, F_is_name⟩ := c.d.def_ 12 (d := d_is_name) rfl
  obtain ⟨fd_check_hours, F_check_hours⟩ := c.d.def_ 13 (d := d_check_hours) rfl
  obtain ⟨fd_are_arcs, F_are_arcs⟩ := c.d.def_ 14 (d := d_are_arcs) rfl
  obtain ⟨fd_Ring_init, F_Ring_init⟩ := c.d.def_ 15 (d := d_Ring_init) rfl
  obtain ⟨fd_Ring_len, F_Ring_len⟩ := c.d.def_ 16 (d := d_Ring_len) rfl
  obtain ⟨fd_Ring_contains, F_Ring_contains⟩ := c.d.def_ 17 (d := d_Ring_contains) rfl
  obtain ⟨fd_Ring_hours, F_Ring_hours⟩ := c.d.def_ 18 (d := d_Ring_hours) rfl
  obtain ⟨fd_Ring_names, F_Ring_names⟩ := c.d.def_ 19 (d := d_Ring_names) rfl
  obtain ⟨fd_Ring_arc, F_Ring_arc⟩ := c.d.def_ 20 (d := d_Ring_arc) rfl
  obtain ⟨fd_Lvery, F_Lvery⟩ := c.d.def_ 21 (d := d_Lvery) rfl
  obtain ⟨fd_is_number, F_is_number⟩ := c.d.def_ 22 (d := d_is_number) rfl
  obtain ⟨fd_is_drifts, F_is_drifts⟩ := c.d.def_ 23 (d := d_is_drifts) rfl
  obtain ⟨fd_check_drifts, F_check_drifts⟩ := c.d.def_ 24 (d := d_check_drifts) rfl
  obtain ⟨fd_start_on, F_start_on⟩ := c.d.def_ 25 (d := d_start_on) rfl
  obtain ⟨fd_turned_on, F_turned_on⟩ := c.d.def_ 26 (d := d_turned_on) rfl
  obtain ⟨fd_ring_on, F_ring_on⟩ := c.d.def_ 27 (d := d_ring_on) rfl
  obtain ⟨fd_is_wishes, F_is_wishes⟩ := c.d.def_ 28 (d := d_is_wishes) rfl
  obtain ⟨fd_days_for, F_days_for⟩ := c.d.def_ 29 (d := d_days_for) rfl
  obtain ⟨fd_all_start, F_all_start⟩ := c.d.def_ 30 (d := d_all_start) rfl
  obtain ⟨fd_Ld_drifts, F_Ld_drifts⟩ := c.d.def_ 31 (d := d_Ld_drifts) rfl
  obtain ⟨fd_Ld_days, F_Ld_days⟩ := c.d.def_ 32 (d := d_Ld_days) rfl
  obtain ⟨fd_Ld_due, F_Ld_due⟩ := c.d.def_ 33 (d := d_Ld_due) rfl
  obtain ⟨fd_Ld_wishes, F_Ld_wishes⟩ := c.d.def_ 34 (d := d_Ld_wishes) rfl
  obtain ⟨fd_Ld_asked, F_Ld_asked⟩ := c.d.def_ 35 (d := d_Ld_asked) rfl
  obtain ⟨fd_Ld_met, F_Ld_met⟩ := c.d.def_ 36 (d := d_Ld_met) rfl
  obtain ⟨fd_Ld_refused, F_Ld_refused⟩ := c.d.def_ 37 (d := d_Ld_refused) rfl
  obtain ⟨fd_law, F_law⟩ := c.d.def_ 38 (d := d_law) rfl
  have eL := hfa.symm.trans (He.glo_ok X G (c.d.fact 38 (f := .glo "law") rfl))
  cases eL
  refine ⟨fd_law, fun s u => FunD.bindsA (ps := ["script"]) F_law (fun _ _ _ _ _ _ us hl => match us, hl with | [_], _ => rfl) s [u] rfl, fun base KB GB TB => ?_⟩
  have T : Bn mg := ⟨He.free_ok X G (c.d.fact 39 (f := .free "len") rfl), He.free_ok X G (c.d.fact 40 (f := .free "isinstance") rfl), He.free_ok X G (c.d.fact 41 (f := .free "int") rfl), He.free_ok X G (c.d.fact 42 (f := .free "bool") rfl), He.free_ok X G (c.d.fact 43 (f := .free "str") rfl), He.free_ok X G (c.d.fact 44 (f := .free "list") rfl), He.free_ok X G (c.d.fact 45 (f := .free "dict") rfl), He.free_ok X G (c.d.fact 46 (f := .free "tuple") rfl), He.free_ok X G (c.d.fact 47 (f := .free "range") rfl), He.free_ok X G (c.d.fact 48 (f := .free "enumerate") rfl), He.free_ok X G (c.d.fact 49 (f := .free "zip") rfl), He.free_ok X G (c.d.fact 50 (f := .free "sorted") rfl), He.free_ok X G (c.d.fact 51 (f := .free "max") rfl), He.free_ok X G (c.d.fact 52 (f := .free "min") rfl), He.free_ok X G (c.d.fact 53 (f := .free "all") rfl), He.free_ok X G (c.d.fact 54 (f := .free "any") rfl), He.free_ok X G (c.d.fact 55 (f := .free "repr") rfl), He.free_ok X G (c.d.fact 56 (f := .free "sum") rfl), He.free_ok X G (c.d.fact 57 (f := .free "abs") rfl), He.free_ok X G (c.d.fact 58 (f := .free "super") rfl)⟩
  have RC : RingC K mg (CRg K) := ⟨He.cls_ok (c.d.fact 60 (f := .cls "Ring") rfl), He.noat_ok (c.d.fact 61 (f := .noat "Ring" "own_hours") rfl), He.noat_ok (c.d.fact 62 (f := .noat "Ring" "own_arcs") rfl)⟩
  have T_FORTY := He.int_ok X G (c.d.fact 63 (f := .int "FORTY" 40) rfl)
  have T_LETTERS := He.str_ok X G (c.d.fact 64 (f := .str "LETTERS" "abcdefghijklmnopqrstuvwxyz") rfl)
  have T_MOST_HOURS := He.int_ok X G (c.d.fact 65 (f := .int "MOST_HOURS" 1000) rfl)
  have T_SIGNS := He.str_ok X G (c.d.fact 66 (f := .str "SIGNS" "abcdefghijklmnopqrstuvwxyz0123456789") rfl)
  have Z_BadDrifts : Rz PP w K mg base "BadDrifts" (er_BadDrifts.C K) "drifts" := rz_BadDrifts X G T.super (c.err 0 (d := er_BadDrifts) rfl).1 (c.err 0 (d := er_BadDrifts) rfl).2
  have Z_BadWishes : Rz PP w K mg base "BadWishes" (er_BadWishes.C K) "wishes" := rz_BadWishes X G T.super (c.err 1 (d := er_BadWishes) rfl).1 (c.err 1 (d := er_BadWishes) rfl).2
  have hs := c.sysM
  have hne : PySem.W.exmOne K (.ref (er_BadWishes.C K)) (.ref (er_BadDrifts.C K)) = some false := c.pair 1 0 (d := er_BadWishes) (e := er_BadDrifts)
  have K_Ldraw := ok_Ldraw (P := PP) (w := w) (K := K) (mg := mg) (base := base) T F_Ldraw
  have C_Ldraw : Df PP w K mg base CX0 1 "_law_draw" ["spring", "many"] (sp_Ldraw K) := ⟨_, fd_Ldraw, He.glo_ok X G (c.d.fact 0 (f := .glo "_law_draw") rfl), K_Ldraw, F_Ldraw.kp, F_Ldraw.bindsN (fun _ _ _ _ _ _ us hl => match us, hl with | [_, _], _ => rfl)⟩
  have D_Ldraw : Df PP w K mg base CX0 1 "_law_draw" ["spring", "many"] (spW (CRg K) W_Ldraw) := Df.imp (⟨_, fd_Ldraw, He.glo_ok X G (c.d.fact 0 (f := .glo "_law_draw") rfl), K_Ldraw, F_Ldraw.kp, F_Ldraw.bindsN (fun _ _ _ _ _ _ us hl => match us, hl with | [_, _], _ => rfl)⟩ : Df PP w K mg base CX0 1 "_law_draw" ["spring", "many"] (sp_Ldraw K)) imp_Ldraw
  have K_Lpick := ok_Lpick (P := PP) (w := w) (K := K) (mg := mg) (base := base) T C_Ldraw F_Lpick
  have C_Lpick : Df PP w K mg base CX0 2 "_law_pick" ["spring", "some"] (sp_Lpick K) := ⟨_, fd_Lpick, He.glo_ok X G (c.d.fact 1 (f := .glo "_law_pick") rfl), K_Lpick, F_Lpick.kp, F_Lpick.bindsN (fun _ _ _ _ _ _ us hl => match us, hl with | [_, _], _ => rfl)⟩
  have D_Lpick : Df PP w K mg base CX0 2 "_law_pick" ["spring", "some"] (spW (CRg K) W_Lpick) := Df.imp (⟨_, fd_Lpick, He.glo_ok X G (c.d.fact 1 (f := .glo "_law_pick") rfl), K_Lpick, F_Lpick.kp, F_Lpick.bindsN (fun _ _ _ _ _ _ us hl => match us, hl with | [_, _], _ => rfl)⟩ : Df PP w K mg base CX0 2 "_law_pick" ["spring", "some"] (sp_Lpick K)) imp_Lpick
  have K_Lmixed := ok_Lmixed (P := PP) (w := w) (K := K) (mg := mg) (base := base) T C_Ldraw F_Lmixed
  have D_Lmixed : Df PP w K mg base CX0 2 "_law_mixed" ["spring", "some"] (spW (CRg K) W_Lmixed) := Df.imp (⟨_, fd_Lmixed, He.glo_ok X G (c.d.fact 2 (f := .glo "_law_mixed") rfl), K_Lmixed, F_Lmixed.kp, F_Lmixed.bindsN (fun _ _ _ _ _ _ us hl => match us, hl with | [_, _], _ => rfl)⟩ : Df PP w K mg base CX0 2 "_law_mixed" ["spring", "some"] (sp_Lmixed K)) imp_Lmixed
  have K_Lspring := ok_Lspring (P := PP) (w := w) (K := K) (mg := mg) (base := base) T F_Lspring
  have C_Lspring : Df PP w K mg base CX0 1 "_law_spring" ["script", "turn"] (sp_Lspring K) := ⟨_, fd_Lspring, He.glo_ok X G (c.d.fact 3 (f := .glo "_law_spring") rfl), K_Lspring, F_Lspring.kp, F_Lspring.bindsN (fun _ _ _ _ _ _ us hl => match us, hl with | [_, _], _ => rfl)⟩
  have K_Lw_name := ok_Lw_name (P := PP) (w := w) (K := K) (mg := mg) (base := base) T C_Ldraw C_Lpick F_Lw_name
  have C_Lw_name : Df PP w K mg base CX0 3 "_law_w_name" ["spring"] (sp_Lw_name K) := ⟨_, fd_Lw_name, He.glo_ok X G (c.d.fact 4 (f := .glo "_law_w_name") rfl), K_Lw_name, F_Lw_name.kp, F_Lw_name.bindsN (fun _ _ _ _ _ _ us hl => match us, hl with | [_], _ => rfl)⟩
  have K_Lw_names := ok_Lw_names (P := PP) (w := w) (K := K) (mg := mg) (base := base) T C_Lw_name C_Ldraw C_Lpick F_Lw_names
  have C_Lw_names : Df PP w K mg base CX0 4 "_law_w_names" ["spring", "many"] (sp_Lw_names K) := ⟨_, fd_Lw_names, He.glo_ok X G (c.d.fact 5 (f := .glo "_law_w_names") rfl), K_Lw_names, F_Lw_names.kp, F_Lw_names.bindsN (fun _ _ _ _ _ _ us hl => match us, hl with | [_, _], _ => rfl)⟩
  have D_Lw_names : Df PP w K mg base CX0 4 "_law_w_names" ["spring", "many"] (spW (CRg K) W_Lw_names) := Df.imp (⟨_, fd_Lw_names, He.glo_ok X G (c.d.fact 5 (f := .glo "_law_w_names") rfl), K_Lw_names, F_Lw_names.kp, F_Lw_names.bindsN (fun _ _ _ _ _ _ us hl => match us, hl with | [_, _], _ => rfl)⟩ : Df PP w K mg base CX0 4 "_law_w_names" ["spring", "many"] (sp_Lw_names K)) imp_Lw_names
  have K_Lr_lengths := ok_Lr_lengths (P := PP) (w := w) (K := K) (mg := mg) (base := base) T C_Ldraw C_Lpick F_Lr_lengths
  have C_Lr_lengths : Df PP w K mg base CX0 3 "_law_r_lengths" ["spring", "hours", "many"] (sp_Lr_lengths K) := ⟨_, fd_Lr_lengths, He.glo_ok X G (c.d.fact 6 (f := .glo "_law_r_lengths") rfl), K_Lr_lengths, F_Lr_lengths.kp, F_Lr_lengths.bindsN (fun _ _ _ _ _ _ us hl => match us, hl with | [_, _, _], _ => rfl)⟩
  have K_Lr_drawn := ok_Lr_drawn (P := PP) (w := w) (K := K) (mg := mg) (base := base) T C_Lpick C_Lr_lengths C_Lw_names C_Ldraw F_Lr_drawn
  have D_Lr_drawn : Df PP w K mg base CX0 5 "_law_r_drawn" ["spring", "many"] (spW (CRg K) W_Lr_drawn) := Df.imp (⟨_, fd_Lr_drawn, He.glo_ok X G (c.d.fact 7 (f := .glo "_law_r_drawn") rfl), K_Lr_drawn, F_Lr_drawn.kp, F_Lr_drawn.bindsN (fun _ _ _ _ _ _ us hl => match us, hl with | [_, _], _ => rfl)⟩ : Df PP w K mg base CX0 5 "_law_r_drawn" ["spring", "many"] (sp_Lr_drawn K)) imp_Lr_drawn
  have R_Lsame : ∀ n, FnOk PP w K mg base CX0 (0 + n) (He.fAd K d_Lsame.at_) fd_Lsame ["found", "due"] (sp_LsameN K n) := fun n => by
    induction n with
    | zero => exact fn_void void_Lsame
    | succ n ih => exact ok_Lsame T (by omega) ⟨_, fd_Lsame, He.glo_ok X G (c.d.fact 8 (f := .glo "_law_same") rfl), ih, F_Lsame.kp, F_Lsame.bindsN (fun _ _ _ _ _ _ us hl => match us, hl with | [_, _], _ => rfl)⟩ F_Lsame
  have D_Lsame : Df PP w K mg base CX0 13 "_law_same" ["found", "due"] (spW (CRg K) W_Lsame) := Df.imp (⟨_, fd_Lsame, He.glo_ok X G (c.d.fact 8 (f := .glo "_law_same") rfl), (R_Lsame 10).mono (by decide), F_Lsame.kp, F_Lsame.bindsN (fun _ _ _ _ _ _ us hl => match us, hl with | [_, _], _ => rfl)⟩ : Df PP w K mg base CX0 13 "_law_same" ["found", "due"] (sp_Lsame K)) imp_Lsame
  have K_is_integer := ok_is_integer (P := PP) (w := w) (K := K) (mg := mg) (base := base) T F_is_integer
  have C_is_integer : Df PP w K mg base CX0 1 "is_integer" ["thing"] (sp_is_integer K) := ⟨_, fd_is_integer, He.glo_ok X G (c.d.fact 9 (f := .glo "is_integer") rfl), K_is_integer, F_is_integer.kp, F_is_integer.bindsN (fun _ _ _ _ _ _ us hl => match us, hl with | [_], _ => rfl)⟩
  have D_is_integer : Df PP w K mg base CX0 1 "is_integer" ["thing"] (spW (CRg K) W_is_integer) := Df.imp (⟨_, fd_is_integer, He.glo_ok X G (c.d.fact 9 (f := .glo "is_integer") rfl), K_is_integer, F_is_integer.kp, F_is_integer.bindsN (fun _ _ _ _ _ _ us hl => match us, hl with | [_], _ => rfl)⟩ : Df PP w K mg base CX0 1 "is_integer" ["thing"] (sp_is_integer K)) imp_is_integer
  have K_is_between := ok_is_between (P := PP) (w := w) (K := K) (mg := mg) (base := base) T C_is_integer F_is_between
  have C_is_between : Df PP w K mg base CX0 2 "is_between" ["thing", "low", "high"] (sp_is_between K) := ⟨_, fd_is_between, He.glo_ok X G (c.d.fact 10 (f := .glo "is_between") rfl), K_is_between, F_is_between.kp, F_is_between.bindsN (fun _ _ _ _ _ _ us hl => match us, hl with | [_, _, _], _ => rfl)⟩
  have D_is_between : Df PP w K mg base CX0 2 "is_between" ["thing", "low", "high"] (spW (CRg K) W_is_between) := Df.imp (⟨_, fd_is_between, He.glo_ok X G (c.d.fact 10 (f := .glo "is_between") rfl), K_is_between, F_is_between.kp, F_is_between.bindsN (fun _ _ _ _ _ _ us hl => match us, hl with | [_, _, _], _ => rfl)⟩ : Df PP w K mg base CX0 2 "is_between" ["thing", "low", "high"] (sp_is_between K)) imp_is_between
  have K_is_list := ok_is_list (P := PP) (w := w) (K := K) (mg := mg) (base := base) T F_is_list
  have C_is_list : Df PP w K mg base CX0 1 "is_list" ["thing"] (sp_is_list K) := ⟨_, fd_is_list, He.glo_ok X G (c.d.fact 11 (f := .glo "is_list") rfl), K_is_list, F_is_list.kp, F_is_list.bindsN (fun _ _ _ _ _ _ us hl => match us, hl with | [_], _ => rfl)⟩
  have K_is_name := ok_is_name (P := PP) (w := w) (K := K) (mg := mg) (base := base) T T_LETTERS T_SIGNS F_is_name
  have C_is_name : Df PP w K mg base CX0 1 "is_name" ["thing"] (sp_is_name K) := ⟨_, fd_is_name, He.glo_ok X G (c.d.fact 12 (f := .glo "is_name") rfl), K_is_name, F_is_name.kp, F_is_name.bindsN (fun _ _ _ _ _ _ us hl => match us, hl with | [_], _ => rfl)⟩
  have K_check_hours := ok_check_hours (P := PP) (w := w) (K := K) (mg := mg) (base := base) T C_is_between T_MOST_HOURS F_check_hours
  have C_check_hours : Df PP w K mg base CX0 3 "check_hours" ["hours"] (sp_check_hours K) := ⟨_, fd_check_hours, He.glo_ok X G (c.d.fact 13 (f := .glo "check_hours") rfl), K_check_hours, F_check_hours.kp, F_check_hours.bindsN (fun _ _ _ _ _ _ us hl => match us, hl with | [_], _ => rfl)⟩
  have K_are_arcs := ok_are_arcs (P := PP) (w := w) (K := K) (mg := mg) (base := base) T C_is_list C_is_name C_is_between T_FORTY F_are_arcs
  have C_are_arcs : Df PP w K mg base CX0 3 "are_arcs" ["hours", "thing"] (sp_are_arcs K) := ⟨_, fd_are_arcs, He.glo_ok X G (c.d.fact 14 (f := .glo "are_arcs") rfl), K_are_arcs, F_are_arcs.kp, F_are_arcs.bindsN (fun _ _ _ _ _ _ us hl => match us, hl with | [_, _], _ => rfl)⟩
  have K_Ring_init := ok_Ring_init (P := PP) (w := w) (K := K) (mg := mg) (base := base) T RC C_check_hours C_are_arcs F_Ring_init
  have C_new_Ring : C8.Mak PP w K mg base 4 "Ring" (CRg K) (sp_Ring_init K (CRg K)) [] := ⟨_, fd_Ring_init, _, [], He.mkr_ok (c.d.fact 15 (f := .mkr "Ring") rfl), K_Ring_init, He.glo_ok X G (c.d.fact 59 (f := .glo "Ring") rfl), F_Ring_init.bindsN (fun _ _ _ _ _ _ us hl => match us, hl with | [_, _, _], _ => rfl), .nil⟩
  have K_Ring_len := ok_Ring_len (P := PP) (w := w) (K := K) (mg := mg) (base := base) T RC F_Ring_len
  have C_Ring_len : Mt PP w K mg base (CRg K) 1 "__len__" ["self"] (sp_Ring_len K (CRg K)) := ⟨_, fd_Ring_len, RC.cls, He.meth_ok (c.d.fact 16 (f := .meth "Ring" "__len__") rfl), K_Ring_len, F_Ring_len.bindsN (fun _ _ _ _ _ _ us hl => match us, hl with | [_], _ => rfl)⟩
  have K_Ring_contains := ok_Ring_contains (P := PP) (w := w) (K := K) (mg := mg) (base := base) T RC F_Ring_contains
  have C_Ring_contains : Mt PP w K mg base (CRg K) 1 "__contains__" ["self", "name"] (sp_Ring_contains K (CRg K)) := ⟨_, fd_Ring_contains, RC.cls, He.meth_ok (c.d.fact 17 (f := .meth "Ring" "__contains__") rfl), K_Ring_contains, F_Ring_contains.bindsN (fun _ _ _ _ _ _ us hl => match us, hl with | [_, _], _ => rfl)⟩
  have K_Ring_hours := ok_Ring_hours (P := PP) (w := w) (K := K) (mg := mg) (base := base) T RC F_Ring_hours
  have D_Ring_hours : Mt PP w K mg base (CRg K) 1 "hours" ["self"] (spW (CRg K) W_Ring_hours) := Mt.imp (⟨_, fd_Ring_hours, RC.cls, He.meth_ok (c.d.fact 18 (f := .meth "Ring" "hours") rfl), K_Ring_hours, F_Ring_hours.bindsN (fun _ _ _ _ _ _ us hl => match us, hl with | [_], _ => rfl)⟩ : Mt PP w K mg base (CRg K) 1 "hours" ["self"] (sp_Ring_hours K (CRg K))) imp_Ring_hours
  have K_Ring_names := ok_Ring_names (P := PP) (w := w) (K := K) (mg := mg) (base := base) T RC F_Ring_names
  have D_Ring_names : Mt PP w K mg base (CRg K) 1 "names" ["self"] (spW (CRg K) W_Ring_names) := Mt.imp (⟨_, fd_Ring_names, RC.cls, He.meth_ok (c.d.fact 19 (f := .meth "Ring" "names") rfl), K_Ring_names, F_Ring_names.bindsN (fun _ _ _ _ _ _ us hl => match us, hl with | [_], _ => rfl)⟩ : Mt PP w K mg base (CRg K) 1 "names" ["self"] (sp_Ring_names K (CRg K))) imp_Ring_names
  have K_Ring_arc := ok_Ring_arc (P := PP) (w := w) (K := K) (mg := mg) (base := base) T RC C_Ring_contains F_Ring_arc
  have D_Ring_arc : Mt PP w K mg base (CRg K) 2 "arc" ["self", "name"] (spW (CRg K) W_Ring_arc) := Mt.imp (⟨_, fd_Ring_arc, RC.cls, He.meth_ok (c.d.fact 20 (f := .meth "Ring" "arc") rfl), K_Ring_arc, F_Ring_arc.bindsN (fun _ _ _ _ _ _ us hl => match us, hl with | [_, _], _ => rfl)⟩ : Mt PP w K mg base (CRg K) 2 "arc" ["self", "name"] (sp_Ring_arc K (CRg K))) imp_Ring_arc
  have K_LsameW := ok_LsameW (P := PP) (w := w) (K := K) (mg := mg) (base := base) T F_Lsame
  have W_Lsame : DfA (GH 1) PP w K mg base "_law_same" ["found", "due"] (sp_LsameW K) := ⟨_, fd_Lsame, He.glo_ok X G (c.d.fact 8 (f := .glo "_law_same") rfl), K_LsameW, F_Lsame.kp, F_Lsame.bindsN (fun _ _ _ _ _ _ us hl => match us, hl with | [_, _], _ => rfl)⟩
  have K_LveryW := ok_LveryW (P := PP) (w := w) (K := K) (mg := mg) (base := base) T W_Lsame F_Lvery
  have Dv : DfA (GH 2) PP w K mg base "_law_very" ["kept", "thing"] (sp_LveryW K) := ⟨_, fd_Lvery, He.glo_ok X G (c.d.fact 21 (f := .glo "_law_very") rfl), K_LveryW, F_Lvery.kp, F_Lvery.bindsN (fun _ _ _ _ _ _ us hl => match us, hl with | [_, _], _ => rfl)⟩
  have K_is_number := ok_is_number (P := PP) (w := w) (K := K) (mg := mg) (base := base) T RC D_is_integer F_is_number
  have D_is_number : Df PP w K mg base CX0 2 "is_number" ["thing"] (spW (CRg K) W_is_number) := ⟨_, fd_is_number, He.glo_ok X G (c.d.fact 22 (f := .glo "is_number") rfl), K_is_number, F_is_number.kp, F_is_number.bindsN (fun _ _ _ _ _ _ us hl => match us, hl with | [_], _ => rfl)⟩
  have K_is_drifts := ok_is_drifts (P := PP) (w := w) (K := K) (mg := mg) (base := base) T RC D_Ring_names D_is_between D_Ring_hours C_Ring_len F_is_drifts
  have D_is_drifts : Df PP w K mg base CX0 3 "is_drifts" ["ring", "thing"] (spW (CRg K) W_is_drifts) := ⟨_, fd_is_drifts, He.glo_ok X G (c.d.fact 23 (f := .glo "is_drifts") rfl), K_is_drifts, F_is_drifts.kp, F_is_drifts.bindsN (fun _ _ _ _ _ _ us hl => match us, hl with | [_, _], _ => rfl)⟩
  have K_check_drifts := ok_check_drifts (P := PP) (w := w) (K := K) (mg := mg) (base := base) T RC D_is_drifts F_check_drifts
  have D_check_drifts : Df PP w K mg base CX0 4 "check_drifts" ["ring", "drifts"] (spW (CRg K) W_check_drifts) := ⟨_, fd_check_drifts, He.glo_ok X G (c.d.fact 24 (f := .glo "check_drifts") rfl), K_check_drifts, F_check_drifts.kp, F_check_drifts.bindsN (fun _ _ _ _ _ _ us hl => match us, hl with | [_, _], _ => rfl)⟩
  have K_check_driftsX := ok_check_driftsX (P := PP) (w := w) (K := K) (mg := mg) (base := base) T RC D_is_drifts Z_BadDrifts F_check_drifts
  have C_check_driftsX : Df PP w K mg base (L2.CX PP w) 4 "check_drifts" ["ring", "drifts"] (sp_check_driftsX K (CRg K) (er_BadDrifts.C K)) := ⟨_, fd_check_drifts, He.glo_ok X G (c.d.fact 24 (f := .glo "check_drifts") rfl), K_check_driftsX.mono (by decide), F_check_drifts.kp, F_check_drifts.bindsN (fun _ _ _ _ _ _ us hl => match us, hl with | [_, _], _ => rfl)⟩
  have K_start_on := ok_start_on (P := PP) (w := w) (K := K) (mg := mg) (base := base) T RC D_Ring_arc D_Ring_hours F_start_on
  have D_start_on : Df PP w K mg base CX0 3 "start_on" ["ring", "drifts", "name", "day"] (spW (CRg K) W_start_on) := ⟨_, fd_start_on, He.glo_ok X G (c.d.fact 25 (f := .glo "start_on") rfl), K_start_on, F_start_on.kp, F_start_on.bindsN (fun _ _ _ _ _ _ us hl => match us, hl with | [_, _, _, _], _ => rfl)⟩
  have K_turned_on := ok_turned_on (P := PP) (w := w) (K := K) (mg := mg) (base := base) T RC D_Ring_names D_Ring_arc D_start_on C_new_Ring D_Ring_hours F_turned_on
  have D_turned_on : Df PP w K mg base CX0 6 "turned_on" ["ring", "drifts", "day"] (spW (CRg K) W_turned_on) := ⟨_, fd_turned_on, He.glo_ok X G (c.d.fact 26 (f := .glo "turned_on") rfl), K_turned_on, F_turned_on.kp, F_turned_on.bindsN (fun _ _ _ _ _ _ us hl => match us, hl with | [_, _, _], _ => rfl)⟩
  have K_ring_on := ok_ring_on (P := PP) (w := w) (K := K) (mg := mg) (base := base) T RC D_check_drifts D_is_number D_turned_on F_ring_on
  have D_ring_on : Df PP w K mg base CX0 7 "ring_on" ["ring", "drifts", "day"] (spW (CRg K) W_ring_on) := ⟨_, fd_ring_on, He.glo_ok X G (c.d.fact 27 (f := .glo "ring_on") rfl), K_ring_on, F_ring_on.kp, F_ring_on.bindsN (fun _ _ _ _ _ _ us hl => match us, hl with | [_, _, _], _ => rfl)⟩
  have K_is_wishes := ok_is_wishes (P := PP) (w := w) (K := K) (mg := mg) (base := base) T RC D_is_between D_Ring_hours C_Ring_contains F_is_wishes
  have D_is_wishes : Df PP w K mg base CX0 3 "is_wishes" ["ring", "thing"] (spW (CRg K) W_is_wishes) := ⟨_, fd_is_wishes, He.glo_ok X G (c.d.fact 28 (f := .glo "is_wishes") rfl), K_is_wishes, F_is_wishes.kp, F_is_wishes.bindsN (fun _ _ _ _ _ _ us hl => match us, hl with | [_, _], _ => rfl)⟩
  have K_days_for := ok_days_for (P := PP) (w := w) (K := K) (mg := mg) (base := base) T RC D_Ring_hours D_start_on F_days_for
  have D_days_for : Df PP w K mg base CX0 4 "days_for" ["ring", "drifts", "name", "hour"] (spW (CRg K) W_days_for) := ⟨_, fd_days_for, He.glo_ok X G (c.d.fact 29 (f := .glo "days_for") rfl), K_days_for, F_days_for.kp, F_days_for.bindsN (fun _ _ _ _ _ _ us hl => match us, hl with | [_, _, _, _], _ => rfl)⟩
  have K_all_start := ok_all_start (P := PP) (w := w) (K := K) (mg := mg) (base := base) T RC D_check_drifts D_is_wishes D_days_for F_all_start
  have D_all_start : Df PP w K mg base CX0 5 "all_start" ["ring", "drifts", "wishes"] (spW (CRg K) W_all_start) := ⟨_, fd_all_start, He.glo_ok X G (c.d.fact 30 (f := .glo "all_start") rfl), K_all_start, F_all_start.kp, F_all_start.bindsN (fun _ _ _ _ _ _ us hl => match us, hl with | [_, _, _], _ => rfl)⟩
  have CK_all_start : DfK PP w K mg base CX0 5 "all_start" ["ring", "drifts", "wishes"] ["wishes", "drifts", "ring"] (spW (CRg K) W_all_start) := ⟨_, fd_all_start, He.glo_ok X G (c.d.fact 30 (f := .glo "all_start") rfl), K_all_start.mono (by decide), F_all_start.kp, kb_all_start F_all_start⟩
  have K_all_startX := ok_all_startX (P := PP) (w := w) (K := K) (mg := mg) (base := base) T RC D_is_wishes C_check_driftsX Z_BadWishes F_all_start
  have C_all_startX : Df PP w K mg base (L2.CX PP w) 5 "all_start" ["ring", "drifts", "wishes"] (sp_all_startX K (CRg K) (er_BadDrifts.C K) (er_BadWishes.C K)) := ⟨_, fd_all_start, He.glo_ok X G (c.d.fact 30 (f := .glo "all_start") rfl), K_all_startX.mono (by decide), F_all_start.kp, F_all_start.bindsN (fun _ _ _ _ _ _ us hl => match us, hl with | [_, _, _], _ => rfl)⟩
  have K_Ld_drifts := ok_Ld_drifts (P := PP) (w := w) (K := K) (mg := mg) (base := base) T RC D_Lpick D_Ldraw D_Lmixed F_Ld_drifts
  have D_Ld_drifts : Df PP w K mg base CX0 3 "_law_d_drifts" ["spring", "hours", "arcs"] (spW (CRg K) W_Ld_drifts) := ⟨_, fd_Ld_drifts, He.glo_ok X G (c.d.fact 31 (f := .glo "_law_d_drifts") rfl), K_Ld_drifts, F_Ld_drifts.kp, F_Ld_drifts.bindsN (fun _ _ _ _ _ _ us hl => match us, hl with | [_, _, _], _ => rfl)⟩
  have K_Ld_days := ok_Ld_days (P := PP) (w := w) (K := K) (mg := mg) (base := base) T RC F_Ld_days
  have D_Ld_days : Df PP w K mg base CX0 1 "_law_d_days" ["hours", "arcs", "drifts", "name", "hour"] (spW (CRg K) W_Ld_days) := ⟨_, fd_Ld_days, He.glo_ok X G (c.d.fact 32 (f := .glo "_law_d_days") rfl), K_Ld_days, F_Ld_days.kp, F_Ld_days.bindsN (fun _ _ _ _ _ _ us hl => match us, hl with | [_, _, _, _, _], _ => rfl)⟩
  have K_Ld_due := ok_Ld_due (P := PP) (w := w) (K := K) (mg := mg) (base := base) T RC D_Ld_days F_Ld_due
  have D_Ld_due : Df PP w K mg base CX0 2 "_law_d_due" ["hours", "arcs", "drifts", "wishes"] (spW (CRg K) W_Ld_due) := ⟨_, fd_Ld_due, He.glo_ok X G (c.d.fact 33 (f := .glo "_law_d_due") rfl), K_Ld_due, F_Ld_due.kp, F_Ld_due.bindsN (fun _ _ _ _ _ _ us hl => match us, hl with | [_, _, _, _], _ => rfl)⟩
  have K_Ld_wishes := ok_Ld_wishes (P := PP) (w := w) (K := K) (mg := mg) (base := base) T RC D_Ldraw D_Lmixed D_Lpick F_Ld_wishes
  have D_Ld_wishes : Df PP w K mg base CX0 3 "_law_d_wishes" ["spring", "hours", "arcs", "drifts"] (spW (CRg K) W_Ld_wishes) := ⟨_, fd_Ld_wishes, He.glo_ok X G (c.d.fact 34 (f := .glo "_law_d_wishes") rfl), K_Ld_wishes, F_Ld_wishes.kp, F_Ld_wishes.bindsN (fun _ _ _ _ _ _ us hl => match us, hl with | [_, _, _, _], _ => rfl)⟩
  have K_Ld_asked := ok_Ld_asked (P := PP) (w := w) (K := K) (mg := mg) (base := base) T RC D_Ld_due C_new_Ring D_Lsame D_all_start D_ring_on D_Ring_arc CK_all_start F_Ld_asked
  have D_Ld_asked : Df PP w K mg base CX0 14 "_law_d_asked" ["spring", "hours", "arcs", "drifts", "wishes"] (spW (CRg K) W_Ld_asked) := ⟨_, fd_Ld_asked, He.glo_ok X G (c.d.fact 35 (f := .glo "_law_d_asked") rfl), K_Ld_asked, F_Ld_asked.kp, F_Ld_asked.bindsN (fun _ _ _ _ _ _ us hl => match us, hl with | [_, _, _, _, _], _ => rfl)⟩
  have MG : ∃ (g : Addr) (oc : Value) (od : Option Addr) (dV kV doc pm : Value) (an : Option Addr) (cdv ct : Value) (osl : Array (Option Value)), mg "_law_d_met" = some (.ref g) ∧ PySem.W.keepIn K (.ref g) = true ∧ K.lookup g = some ⟨oc, od, .func (PySem.W.fnOf "_law_d_met" "_law_d_met" (defArgs s_Ld_met) (defBody s_Ld_met) (defScope s_Ld_met) dV kV doc pm an cdv ct), osl⟩ ∧ PySem.W.codeIn K cdv "_law_d_met" = true ∧ L2.Binds K (PySem.W.fnOf "_law_d_met" "_law_d_met" (defArgs s_Ld_met) (defBody s_Ld_met) (defScope s_Ld_met) dV kV doc pm an cdv ct) ["call", "thing"] [] := by
    obtain ⟨oc, od, kV, doc, pm, an, cdv, ct, osl, e, lk, hcd⟩ := FunD.rec F_Ld_met
    subst e
    exact ⟨_, oc, od, .none, kV, doc, pm, an, cdv, ct, osl, He.glo_ok X G (c.d.fact 36 (f := .glo "_law_d_met") rfl), F_Ld_met.kp, lk, hcd, F_Ld_met.bindsN (fun _ _ _ _ _ _ us hl => match us, hl with | [_, _], _ => rfl)⟩
  have K_Ld_refusedJ := ok_Ld_refused (P := PP) (w := w) (K := K) (mg := mg) (base := base) T RC C_new_Ring C_all_startX Z_BadDrifts Z_BadWishes hne Dv MG F_Ld_refused (SaysY.code F_Ld_refused) (TB _ (List.mem_cons_self))
  have C_Ld_refused : DfA (GG 8) PP w K mg base "_law_d_refused" ["hours", "arcs", "drifts"] (sp_Ld_refused K (CRg K) (He.cT K ("_law_d_refused", none)).2) := ⟨_, fd_Ld_refused, He.glo_ok X G (c.d.fact 37 (f := .glo "_law_d_refused") rfl), K_Ld_refusedJ, F_Ld_refused.kp, F_Ld_refused.bindsN (fun _ _ _ _ _ _ us hl => match us, hl with | [_, _, _], _ => rfl)⟩
  have K_lawM77 := ok_law (P := PP) (w := w) (K := K) (mg := mg) (base := base) T RC C_Lspring D_Lr_drawn D_Lpick D_Ld_drifts D_Ld_asked D_Ld_wishes D_Lsame D_all_start C_new_Ring D_Lw_names D_Ldraw C_Ld_refused F_law
  exact K_lawM77
end RG
open PySem PySem.W PySem.Calls PyProof.Rows
set_option maxRecDepth 100000 in
set_option maxHeartbeats 0 in
theorem PySem.Challenge.cw_ringnumber_k77_whole_all_starts_at_once_holds : PySem.Challenge.rw_ringnumber_k77_whole_all_starts_at_once.Holds := by
  w_on; o_law
  refine HandSHeadRun.head_any (r := OpenLaw.row PySem.Challenge.rw_ringnumber_k77_whole_all_starts_at_once) (q := view (OpenLaw.row PySem.Challenge.rw_ringnumber_k77_whole_all_starts_at_once).prog [56]) (H := RG.hkY) (ob := RG.obL) (M := 12000) (loose := RG.looseL) (d := HandSHeadRun.topDef (OpenLaw.row PySem.Challenge.rw_ringnumber_k77_whole_all_starts_at_once).prog 56) (kwd := []) RG.obL_eq
    (by kernel_rfl) (fun s => by kernel_rfl) RG.runL (by kernel_rfl) (by kernel_rfl) (by kernel_rfl) (by rfl) (by first | assumption | decide +kernel) (by decide +kernel) ⟨rfl, rfl, rfl, rfl, rfl, by decide +kernel⟩ ?hw ?hc
  case hw => w_witness2
  case hc =>
    refine RG.walkA (l := PySem.Challenge.rw_ringnumber_k77_whole_all_starts_at_once) (n := 63) (x := "script") (G := RG.GG 16) rfl (by decide) (by kernel_rfl) ⟨⟨rfl, by decide, by decide⟩, rfl⟩ ?F
    intro w mg fa h Y G hmg0
    obtain ⟨K, KX, c⟩ := Y
    have hmg : mg ("law" : PySem.Str) = some (.ref fa) := by
      have e : (HandSHeadRun.topDef (OpenLaw.row PySem.Challenge.rw_ringnumber_k77_whole_all_starts_at_once).prog 56).name = ("law" : PySem.Str) := by kernel_rfl
      rw [← e]
      exact hmg0
    obtain ⟨fd, hb, hF⟩ := RG.facts w KX G hmg c
    refine ⟨K, fd, RG.tfL.map (He.cT K), _, KX, fun p hp => ?_, fun p hp => ?_, fun p hp => ?_, hb, fun H a ns hl _ hT hS => ?_, hF⟩
    · obtain ⟨t, ht, rfl⟩ := List.mem_map.mp hp
      exact (c.tb t ht).2.2
    · obtain ⟨t, ht, rfl⟩ := List.mem_map.mp hp
      exact (c.tb t ht).2.1
    · obtain ⟨t, ht, rfl⟩ := List.mem_map.mp hp
      exact PySem.W.codeHd_of_K KX (c.tb t ht).1
    · exact ⟨a, ns, rfl, hS, hl, hT _ List.mem_cons_self, fun _ => rfl⟩
