import PyProof.Rows.All
import Wide.All
import OpenK.AllK
import Wide.FinOn
import KE.KStateDown
import HandS.ForMost
import HandS.More
import HandS.Exc
import HandS.WordsExc
import HandS.Defaults
import HandS.Property
import HandS.MakeKwOnly
import HandS.Star
import HandS.DictComp
import HandS.Deep
import HandS.Zip
import HandS.Conv
import HandS.Strs
import HandS.Wide
import HandS.SortKw
import HandS.Evl
import HandS.Walk
import HandS.EndBits
import HandS.TupAny
import HandS.Head0
import HandS.Head1
import HandS.Head2
import HandS.HeadEnd
import HandS.HeadHook1
import HandS.HeadHook2
import KE.DataMinMax
import KE.DatumOrd
import KE.SortData
import KE.GoesEnum
import HandS.Codes
import PySem.Challenge.RW_everyfire_k35_whole_weathers_and_cuts
set_option Elab.async false
set_option linter.all false
set_option maxRecDepth 100000
set_option maxHeartbeats 4000000
namespace Ef
open PySem PySem.Spec PyProof.Rows L2 RZ
/-! ### the text by places -/
def top (i : Nat) : Stmt := PySem.Challenge.pw_everyfire_k35_whole_weathers_and_cuts.main.body.getD i (.Pass ⟨0, 0, 0, 0⟩)
abbrev sCheckPlaces : Stmt := top 8
abbrev sNexts : Stmt := top 9
abbrev sHasWay : Stmt := top 10
abbrev sIsKept : Stmt := top 11
abbrev sIsName : Stmt := top 20
abbrev sAreDifferent : Stmt := top 21
abbrev sRequire : Stmt := top 22
abbrev sCheckedTimes : Stmt := top 23
abbrev sCheckWinds : Stmt := top 28
abbrev sCheckChanges : Stmt := top 29
abbrev sBlowing : Stmt := top 30
abbrev sChances : Stmt := top 31
abbrev sLeastNumbers : Stmt := top 33
abbrev sMostNumbers : Stmt := top 34
abbrev sIsNumber : Stmt := top 35
abbrev sCheckNumbers : Stmt := top 36
abbrev sCheckRows : Stmt := top 37
abbrev sLeastMinutes : Stmt := top 38
abbrev sCaught : Stmt := top 39
abbrev sSpread : Stmt := top 40
abbrev sCheckFire : Stmt := top 41
abbrev sTold : Stmt := top 42
abbrev sBurning : Stmt := top 43
abbrev sFastest : Stmt := top 44
abbrev sSlowest : Stmt := top 45
abbrev sLawRow : Stmt := top 47
abbrev sLawNumbers : Stmt := top 48
abbrev sLawParts : Stmt := top 49
abbrev sLawWeather : Stmt := top 50
abbrev sLawNames : Stmt := top 51
abbrev sLawMade : Stmt := top 52
abbrev sLawSome : Stmt := top 53
abbrev sLawOpen : Stmt := top 54
abbrev sLawOneWay : Stmt := top 55
abbrev sLawWeatherFor : Stmt := top 56
abbrev sLawFourth : Stmt := top 57
abbrev sLaw : Stmt := top 58
abbrev sLandInit : Stmt := inClass (top 24) 0
abbrev sLinkNames : Stmt := inClass (top 24) 4
abbrev sAreEnds : Stmt := inClass (top 24) 1
abbrev sCheckedLink : Stmt := inClass (top 24) 2
abbrev sCheckedPath : Stmt := inClass (top 24) 3
abbrev sCheckPlace : Stmt := inClass (top 24) 5
abbrev sCheckWind : Stmt := inClass (top 24) 6
abbrev Fd (K : PySem.W.Frag) (x qual : Str) (st : Stmt) (f : Addr) (fd : FuncData) : Prop := FunD K x qual (defArgs st) (defBody st) (defScope st) [] [] f fd
/-- the class Land -/
abbrev CL (K : PySem.W.Frag) : Addr := He.ga K "Land"
/-- the getter of link_names -/
def gAd (K : PySem.W.Frag) : Addr := match PySem.W.recIn K (He.ma K (CL K) "link_names") "property" with
  | some (.ref g :: _) => g
  | _ => 0
/-- an object that is a default of __init__ -/
def kwAt (x : Str) (K : PySem.W.Frag) : Addr := match K.lookup (He.ma K (CL K) "__init__") with
  | some ⟨_, _, .func fd, _⟩ => (match fd.kwdefaults with
    | .ref D => (match PySem.W.nsIn K D x with
      | some (some (.ref a)) => a
      | _ => 0)
    | _ => 0)
  | _ => 0
/-- what the top has left, as the walks ask it -/
structure Txt (K : PySem.W.Frag) (mg : Str → Option Value) : Prop where
  dCheckPlaces : ∃ fd, Fd K "check_places" "check_places" sCheckPlaces (He.ga K "check_places") fd
  dNexts : ∃ fd, Fd K "nexts" "nexts" sNexts (He.ga K "nexts") fd
  dHasWay : ∃ fd, Fd K "has_way" "has_way" sHasWay (He.ga K "has_way") fd
  dIsKept : ∃ fd, Fd K "is_kept" "is_kept" sIsKept (He.ga K "is_kept") fd
  dIsName : ∃ fd, Fd K "is_name" "is_name" sIsName (He.ga K "is_name") fd
  dAreDifferent : ∃ fd, Fd K "are_different" "are_different" sAreDifferent (He.ga K "are_different") fd
  dRequire : ∃ fd, Fd K "require" "require" sRequire (He.ga K "require") fd
  dCheckedTimes : ∃ fd, Fd K "checked_times" "checked_times" sCheckedTimes (He.ga K "checked_times") fd
  dCheckWinds : ∃ fd, Fd K "check_winds" "check_winds" sCheckWinds (He.ga K "check_winds") fd
  dCheckChanges : ∃ fd, Fd K "check_changes" "check_changes" sCheckChanges (He.ga K "check_changes") fd
  dBlowing : ∃ fd, Fd K "blowing" "blowing" sBlowing (He.ga K "blowing") fd
  dChances : ∃ fd, Fd K "chances" "chances" sChances (He.ga K "chances") fd
  dLeastNumbers : ∃ fd, Fd K "least_numbers" "least_numbers" sLeastNumbers (He.ga K "least_numbers") fd
  dMostNumbers : ∃ fd, Fd K "most_numbers" "most_numbers" sMostNumbers (He.ga K "most_numbers") fd
  dIsNumber : ∃ fd, Fd K "is_number" "is_number" sIsNumber (He.ga K "is_number") fd
  dCheckNumbers : ∃ fd, Fd K "check_numbers" "check_numbers" sCheckNumbers (He.ga K "check_numbers") fd
  dCheckRows : ∃ fd, Fd K "check_rows" "check_rows" sCheckRows (He.ga K "check_rows") fd
  dLeastMinutes : ∃ fd, Fd K "least_minutes" "least_minutes" sLeastMinutes (He.ga K "least_minutes") fd
  dCaught : ∃ fd, Fd K "caught" "caught" sCaught (He.ga K "caught") fd
  dSpread : ∃ fd, Fd K "spread" "spread" sSpread (He.ga K "spread") fd
  dCheckFire : ∃ fd, Fd K "check_fire" "check_fire" sCheckFire (He.ga K "check_fire") fd
  dTold : ∃ fd, Fd K "told" "told" sTold (He.ga K "told") fd
  dBurning : ∃ fd, Fd K "burning" "burning" sBurning (He.ga K "burning") fd
  dFastest : ∃ fd, Fd K "fastest" "fastest" sFastest (He.ga K "fastest") fd
  dSlowest : ∃ fd, Fd K "slowest" "slowest" sSlowest (He.ga K "slowest") fd
  dLawRow : ∃ fd, Fd K "_law_row" "_law_row" sLawRow (He.ga K "_law_row") fd
  dLawNumbers : ∃ fd, Fd K "_law_numbers" "_law_numbers" sLawNumbers (He.ga K "_law_numbers") fd
  dLawParts : ∃ fd, Fd K "_law_parts" "_law_parts" sLawParts (He.ga K "_law_parts") fd
  dLawWeather : ∃ fd, Fd K "_law_weather" "_law_weather" sLawWeather (He.ga K "_law_weather") fd
  dLawNames : ∃ fd, Fd K "_law_names" "_law_names" sLawNames (He.ga K "_law_names") fd
  dLawMade : ∃ fd, Fd K "_law_made" "_law_made" sLawMade (He.ga K "_law_made") fd
  dLawSome : ∃ fd, Fd K "_law_some" "_law_some" sLawSome (He.ga K "_law_some") fd
  dLawOpen : ∃ fd, Fd K "_law_open" "_law_open" sLawOpen (He.ga K "_law_open") fd
  dLawOneWay : ∃ fd, Fd K "_law_one_way" "_law_one_way" sLawOneWay (He.ga K "_law_one_way") fd
  dLawWeatherFor : ∃ fd, Fd K "_law_weather_for" "_law_weather_for" sLawWeatherFor (He.ga K "_law_weather_for") fd
  dLawFourth : ∃ fd, Fd K "_law_fourth" "_law_fourth" sLawFourth (He.ga K "_law_fourth") fd
  dLaw : ∃ fd, Fd K "law" "law" sLaw (He.ga K "law") fd
  gCheckPlaces : mg "check_places" = some (.ref (He.ga K "check_places"))
  gNexts : mg "nexts" = some (.ref (He.ga K "nexts"))
  gHasWay : mg "has_way" = some (.ref (He.ga K "has_way"))
  gIsKept : mg "is_kept" = some (.ref (He.ga K "is_kept"))
  gIsName : mg "is_name" = some (.ref (He.ga K "is_name"))
  gAreDifferent : mg "are_different" = some (.ref (He.ga K "are_different"))
  gRequire : mg "require" = some (.ref (He.ga K "require"))
  gCheckedTimes : mg "checked_times" = some (.ref (He.ga K "checked_times"))
  gCheckWinds : mg "check_winds" = some (.ref (He.ga K "check_winds"))
  gCheckChanges : mg "check_changes" = some (.ref (He.ga K "check_changes"))
  gBlowing : mg "blowing" = some (.ref (He.ga K "blowing"))
  gChances : mg "chances" = some (.ref (He.ga K "chances"))
  gLeastNumbers : mg "least_numbers" = some (.ref (He.ga K "least_numbers"))
  gMostNumbers : mg "most_numbers" = some (.ref (He.ga K "most_numbers"))
  gIsNumber : mg "is_number" = some (.ref (He.ga K "is_number"))
  gCheckNumbers : mg "check_numbers" = some (.ref (He.ga K "check_numbers"))
  gCheckRows : mg "check_rows" = some (.ref (He.ga K "check_rows"))
  gLeastMinutes : mg "least_minutes" = some (.ref (He.ga K "least_minutes"))
  gCaught : mg "caught" = some (.ref (He.ga K "caught"))
  gSpread : mg "spread" = some (.ref (He.ga K "spread"))
  gCheckFire : mg "check_fire" = some (.ref (He.ga K "check_fire"))
  gTold : mg "told" = some (.ref (He.ga K "told"))
  gBurning : mg "burning" = some (.ref (He.ga K "burning"))
  gFastest : mg "fastest" = some (.ref (He.ga K "fastest"))
  gSlowest : mg "slowest" = some (.ref (He.ga K "slowest"))
  gLawRow : mg "_law_row" = some (.ref (He.ga K "_law_row"))
  gLawNumbers : mg "_law_numbers" = some (.ref (He.ga K "_law_numbers"))
  gLawParts : mg "_law_parts" = some (.ref (He.ga K "_law_parts"))
  gLawWeather : mg "_law_weather" = some (.ref (He.ga K "_law_weather"))
  gLawNames : mg "_law_names" = some (.ref (He.ga K "_law_names"))
  gLawMade : mg "_law_made" = some (.ref (He.ga K "_law_made"))
  gLawSome : mg "_law_some" = some (.ref (He.ga K "_law_some"))
  gLawOpen : mg "_law_open" = some (.ref (He.ga K "_law_open"))
  gLawOneWay : mg "_law_one_way" = some (.ref (He.ga K "_law_one_way"))
  gLawWeatherFor : mg "_law_weather_for" = some (.ref (He.ga K "_law_weather_for"))
  gLawFourth : mg "_law_fourth" = some (.ref (He.ga K "_law_fourth"))
  gLaw : mg "law" = some (.ref (He.ga K "law"))
  dAreEnds : ∃ fd, Fd K "are_ends" "Land.are_ends" sAreEnds (He.ma K (CL K) "are_ends") fd
  dCheckedLink : ∃ fd, Fd K "checked_link" "Land.checked_link" sCheckedLink (He.ma K (CL K) "checked_link") fd
  dCheckedPath : ∃ fd, Fd K "checked_path" "Land.checked_path" sCheckedPath (He.ma K (CL K) "checked_path") fd
  dCheckPlace : ∃ fd, Fd K "check_place" "Land.check_place" sCheckPlace (He.ma K (CL K) "check_place") fd
  dCheckWind : ∃ fd, Fd K "check_wind" "Land.check_wind" sCheckWind (He.ma K (CL K) "check_wind") fd
  mAreEnds : Meth K (CL K) "are_ends" (He.ma K (CL K) "are_ends")
  mCheckedLink : Meth K (CL K) "checked_link" (He.ma K (CL K) "checked_link")
  mCheckedPath : Meth K (CL K) "checked_path" (He.ma K (CL K) "checked_path")
  mCheckPlace : Meth K (CL K) "check_place" (He.ma K (CL K) "check_place")
  mCheckWind : Meth K (CL K) "check_wind" (He.ma K (CL K) "check_wind")
  dInit : ∃ fd, FunD K "__init__" "Land.__init__" (defArgs sLandInit) (defBody sLandInit) (defScope sLandInit) [] [("links", .ref (kwAt "links" K)), ("paths", .ref (kwAt "paths" K))] (He.ma K (CL K) "__init__") fd
  dLn : ∃ fd, Fd K "link_names" "Land.link_names" sLinkNames (gAd K) fd
  pLn : PropOf K (CL K) "link_names" (He.ma K (CL K) "link_names") (gAd K)
  mkL : Mk K (CL K) (He.ma K (CL K) "__init__")
  cl : Cls K (CL K)
  gLand : mg "Land" = some (.ref (CL K))
  nWinds : NoAttr K (CL K) "winds"
  nPlaces : NoAttr K (CL K) "places"
  nLinks : NoAttr K (CL K) "links"
  nPaths : NoAttr K (CL K) "paths"
  fAny : mg "any" = none
  fList : mg "list" = none
  fLen : mg "len" = none
  fAll : mg "all" = none
  fEnumerate : mg "enumerate" = none
  fTuple : mg "tuple" = none
  fSorted : mg "sorted" = none
  fZip : mg "zip" = none
  fMin : mg "min" = none
  fMax : mg "max" = none
  fAbs : mg "abs" = none
  fInt : mg "int" = none
  fRange : mg "range" = none
  fDict : mg "dict" = none
  iMostNameChars : ∃ t, mg "MOST_NAME_CHARS" = some (.int 12 t)
  iMostWinds : ∃ t, mg "MOST_WINDS" = some (.int 4 t)
  iMostPlaces : ∃ t, mg "MOST_PLACES" = some (.int 24 t)
  iMostLinks : ∃ t, mg "MOST_LINKS" = some (.int 60 t)
  iMostPaths : ∃ t, mg "MOST_PATHS" = some (.int 60 t)
  iMostMinutes : ∃ t, mg "MOST_MINUTES" = some (.int 1000 t)
  iMostChanges : ∃ t, mg "MOST_CHANGES" = some (.int 40 t)
  iMostMinute : ∃ t, mg "MOST_MINUTE" = some (.int 100000 t)
  sNameChars : ∃ t, mg "NAME_CHARS" = some (.str "abcdefghijklmnopqrstuvwxyz0123456789" t)
/-! ### heaps -/
theorem sm_new {H H' : Hp} {p : Addr} {o : HO} (e : Same H H') (h : H' p = none) : Same H (upd H' p o) := fun b u z => by
  rw [upd_ne (ne_of_none (e b u z) h)]
  exact e b u z
theorem sm_mut {H H' : Hp} {p : Addr} {o : HO} (e : Same H H') (h : H p = none) : Same H (upd H' p o) := fun b u z => by
  rw [upd_ne (ne_of_none z h)]
  exact e b u z
theorem sm_up {H : Hp} {p : Addr} {o : HO} (h : H p = none) : Same H (upd H p o) := sm_new (Same.refl H) h
theorem sm_rd {H H' : Hp} (e : Same H H') {a : Addr} {u : HO} (h : Rd H a u) : Rd H' a u := by
  rcases h with h | ⟨o, h⟩
  · exact .inl (e _ _ h)
  · exact .inr ⟨o, e _ _ h⟩
theorem sm_tup {K : PySem.W.Frag} {H H' : Hp} (e : Same H H') {a : Addr} {xs : List V} (h : SqT K H a xs) : SqT K H' a xs := by
  rcases h with h | h
  · exact .inl (sm_rd e h)
  · exact .inr h
/-- the tuples of H stand in H' -/
def Tps (H H' : Hp) : Prop := ∀ b xs, Rd H b (.tup xs) → Rd H' b (.tup xs)
theorem Tps.refl (H : Hp) : Tps H H := fun _ _ h => h
theorem Tps.trans {H H1 H2 : Hp} (a : Tps H H1) (b : Tps H1 H2) : Tps H H2 := fun c xs h => b c xs (a c xs h)
theorem tps_sm {H H' : Hp} (e : Same H H') : Tps H H' := fun _ _ h => sm_rd e h
/-- what is neither a tuple nor a locked thing may change -/
def Chg : HO → Prop
  | .tup _ => False
  | .frz _ _ => False
  | _ => True
theorem tps_upd {H : Hp} {p : Addr} {o u : HO} (h : H p = some o) (c : Chg o) : Tps H (upd H p u) := fun b xs r => by
  have hb : b ≠ p := by
    intro e
    subst e
    rcases r with r | ⟨ob, r⟩
    · rw [h] at r
      cases r
      exact c
    · rw [h] at r
      cases r
      exact c
  rcases r with r | ⟨ob, r⟩
  · exact .inl (by rw [upd_ne hb]; exact r)
  · exact .inr ⟨ob, by rw [upd_ne hb]; exact r⟩
theorem tps_new {H : Hp} {p : Addr} {u : HO} (h : H p = none) : Tps H (upd H p u) := tps_sm (sm_up h)
theorem tps_sq {K : PySem.W.Frag} {H H' : Hp} (e : Tps H H') {a : Addr} {xs : List V} (h : SqT K H a xs) : SqT K H' a xs := by
  rcases h with h | h
  · exact .inl (e _ _ h)
  · exact .inr h
/-! ### data -/
mutual
def nl : PyData → Bool
  | .list _ => false
  | .dict _ => false
  | .tuple ds => nlA ds
  | .none => true
  | .bool _ => true
  | .int _ => true
  | .str _ => true
def nlA : List PyData → Bool
  | [] => true
  | d :: ds => nl d && nlA ds
end
section
variable {K : PySem.W.Frag} {H H' : Hp}
mutual
theorem dp_sm (e : Same H H') : ∀ (d : PyData) (v : V), Dp K H v d → Dp K H' v d
  | .none, _, h => by
    cases h
    exact .non
  | .bool b, _, h => by
    cases h
    exact .bl b
  | .int i, _, h => by
    cases h
    exact .int i
  | .str x, _, h => by
    cases h
    exact .str x
  | .list ds, _, h => by
    cases h with
    | lst hs ha => exact .lst (e.seq hs) (dpa_sm e ds _ ha)
  | .tuple ds, _, h => by
    cases h with
    | tup hs ha => exact .tup (sm_tup e hs) (dpa_sm e ds _ ha)
  | .dict _, _, h => by cases h
theorem dpa_sm (e : Same H H') : ∀ (ds : List PyData) (vs : List V), DpAll K H vs ds → DpAll K H' vs ds
  | [], _, h => by
    cases h
    exact .nil
  | d :: ds, _, h => by
    cases h with
    | cons h1 h2 => exact .cons (dp_sm e d _ h1) (dpa_sm e ds _ h2)
end
mutual
theorem dp_tps (e : Tps H H') : ∀ (d : PyData) (v : V), nl d = true → Dp K H v d → Dp K H' v d
  | .none, _, _, h => by
    cases h
    exact .non
  | .bool b, _, _, h => by
    cases h
    exact .bl b
  | .int i, _, _, h => by
    cases h
    exact .int i
  | .str x, _, _, h => by
    cases h
    exact .str x
  | .list ds, _, n, _ => by simp [nl] at n
  | .tuple ds, _, n, h => by
    cases h with
    | tup hs ha => exact .tup (tps_sq e hs) (dpa_tps e ds _ (by simpa [nl] using n) ha)
  | .dict _, _, _, h => by cases h
theorem dpa_tps (e : Tps H H') : ∀ (ds : List PyData) (vs : List V), nlA ds = true → DpAll K H vs ds → DpAll K H' vs ds
  | [], _, _, h => by
    cases h
    exact .nil
  | d :: ds, _, n, h => by
    have n' : nl d = true ∧ nlA ds = true := by simpa [nlA] using n
    cases h with
    | cons h1 h2 => exact .cons (dp_tps e d _ n'.1 h1) (dpa_tps e ds _ n'.2 h2)
end
theorem dp_str {v : V} {s : Str} (h : Dp K H v (.str s)) : v = .str s := by cases h; rfl
theorem dp_int {v : V} {i : Int} (h : Dp K H v (.int i)) : v = .int i := by cases h; rfl
theorem dp_non {v : V} (h : Dp K H v .none) : v = .non := by cases h; rfl
theorem dp_bl {v : V} {b : Bool} (h : Dp K H v (.bool b)) : v = .bl b := by cases h; rfl
theorem dp_tup {v : V} {ds : List PyData} (h : Dp K H v (.tuple ds)) : ∃ a xs, v = .ref a ∧ SqT K H a xs ∧ DpAll K H xs ds := by
  cases h with
  | tup hs ha => exact ⟨_, _, rfl, hs, ha⟩
theorem dp_lst {v : V} {ds : List PyData} (h : Dp K H v (.list ds)) : ∃ a xs, v = .ref a ∧ SqL K H a xs ∧ DpAll K H xs ds := by
  cases h with
  | lst hs ha => exact ⟨_, _, rfl, hs, ha⟩
theorem dpa_len : ∀ {vs : List V} {ds : List PyData}, DpAll K H vs ds → vs.length = ds.length
  | _, _, .nil => rfl
  | _, _, .cons _ t => congrArg Nat.succ (dpa_len t)
theorem dpa_get : ∀ {vs : List V} {ds : List PyData} {i : Nat} {x : V}, DpAll K H vs ds → vs[i]? = some x → ∃ d, ds[i]? = some d ∧ Dp K H x d
  | _, _, _, _, .nil, e => by simp at e
  | _, _, 0, _, .cons h _, e => by
    simp at e
    subst e
    exact ⟨_, rfl, h⟩
  | _, _, i + 1, x, .cons _ t, e => by
    obtain ⟨d, h1, h2⟩ := dpa_get (i := i) (x := x) t (by simpa using e)
    exact ⟨d, by simpa using h1, h2⟩
theorem dpa_at : ∀ {vs : List V} {ds : List PyData} {i : Nat} {d : PyData}, DpAll K H vs ds → ds[i]? = some d → ∃ x, vs[i]? = some x ∧ Dp K H x d
  | _, _, _, _, .nil, e => by simp at e
  | _, _, 0, _, .cons h _, e => by
    simp at e
    subst e
    exact ⟨_, rfl, h⟩
  | _, _, i + 1, d, .cons _ t, e => by
    obtain ⟨x, h1, h2⟩ := dpa_at (i := i) (d := d) t (by simpa using e)
    exact ⟨x, by simpa using h1, h2⟩
theorem dpa_app : ∀ {vs ws : List V} {ds es : List PyData}, DpAll K H vs ds → DpAll K H ws es → DpAll K H (vs ++ ws) (ds ++ es)
  | _, _, _, _, .nil, h => h
  | _, _, _, _, .cons a t, h => .cons a (dpa_app t h)
theorem dpa_one {v : V} {d : PyData} (h : Dp K H v d) : DpAll K H [v] [d] := .cons h .nil
theorem dpa_strs : ∀ ss : List Str, DpAll K H (ss.map V.str) (ss.map PyData.str)
  | [] => .nil
  | s :: ss => .cons (.str s) (dpa_strs ss)
theorem dpa_ofStrs : ∀ {ss : List Str} {vs : List V}, DpAll K H vs (ss.map PyData.str) → vs = ss.map V.str
  | [], _, h => by
    cases h
    rfl
  | s :: ss, _, h => by
    cases h with
    | cons a t => rw [dp_str a, dpa_ofStrs t] <;> rfl
theorem dpa_ints : ∀ ss : List Int, DpAll K H (ss.map V.int) (ss.map PyData.int)
  | [] => .nil
  | s :: ss => .cons (.int s) (dpa_ints ss)
theorem dpa_2 {vs : List V} {d1 d2 : PyData} (h : DpAll K H vs [d1, d2]) : ∃ x y, vs = [x, y] ∧ Dp K H x d1 ∧ Dp K H y d2 := by
  cases h with
  | cons a t => cases t with
    | cons b t => cases t with
      | nil => exact ⟨_, _, rfl, a, b⟩
theorem dpa_3 {vs : List V} {d1 d2 d3 : PyData} (h : DpAll K H vs [d1, d2, d3]) : ∃ x y z, vs = [x, y, z] ∧ Dp K H x d1 ∧ Dp K H y d2 ∧ Dp K H z d3 := by
  cases h with
  | cons a t =>
    obtain ⟨y, z, e, b, c⟩ := dpa_2 t
    exact ⟨_, y, z, by rw [e], a, b, c⟩
theorem dpa_4 {vs : List V} {d1 d2 d3 d4 : PyData} (h : DpAll K H vs [d1, d2, d3, d4]) : ∃ x y z u, vs = [x, y, z, u] ∧ Dp K H x d1 ∧ Dp K H y d2 ∧ Dp K H z d3 ∧ Dp K H u d4 := by
  cases h with
  | cons a t =>
    obtain ⟨y, z, u, e, b, c, d⟩ := dpa_3 t
    exact ⟨_, y, z, u, by rw [e], a, b, c, d⟩
theorem dp_tup2 {v : V} {d1 d2 : PyData} (h : Dp K H v (.tuple [d1, d2])) : ∃ a x y, v = .ref a ∧ SqT K H a [x, y] ∧ Dp K H x d1 ∧ Dp K H y d2 := by
  obtain ⟨a, xs, e, s, q⟩ := dp_tup h
  obtain ⟨x, y, e2, h1, h2⟩ := dpa_2 q
  subst e2
  exact ⟨a, x, y, e, s, h1, h2⟩
end
/-! ### the land's data -/
abbrev Pr := Option (Int × Int)
def prD : Pr → PyData
  | none => .none
  | some (l, m) => .tuple [.int l, .int m]
structure Lk where
  nm : Str
  one : Str
  oth : Str
  ts : List Pr
def lkD (l : Lk) : PyData := .tuple [.str l.nm, .str l.one, .str l.oth, .tuple (l.ts.map prD)]
structure Pa where
  one : Str
  oth : Str
  min : Int
def paD (p : Pa) : PyData := .tuple [.str p.one, .str p.oth, .int p.min]
structure LandD where
  winds : List Str
  places : List Str
  links : List Lk
  paths : List Pa
def oiD : Option Int → PyData
  | none => .none
  | some i => .int i
def oiV : Option Int → V
  | none => .non
  | some i => .int i
theorem nl_pr (p : Pr) : nl (prD p) = true := by
  cases p with
  | none => rfl
  | some q => simp [prD, nl, nlA]
theorem nlA_map {α : Type} (f : α → PyData) (h : ∀ a, nl (f a) = true) : ∀ l : List α, nlA (l.map f) = true
  | [] => rfl
  | a :: l => by simp [nlA, h a, nlA_map f h l]
theorem nl_lk (l : Lk) : nl (lkD l) = true := by simp [lkD, nl, nlA, nlA_map prD nl_pr]
theorem nl_pa (p : Pa) : nl (paD p) = true := by simp [paD, nl, nlA]
theorem nl_oi (o : Option Int) : nl (oiD o) = true := by cases o <;> rfl
def lf (w pl l pa : Addr) : List (Str × V) := [("winds", .ref w), ("places", .ref pl), ("links", .ref l), ("paths", .ref pa)]
/-- a tuple whose object has no dict (its methods may be called) -/
def TupN (H : Hp) (a : Addr) (xs : List V) : Prop := ∃ o : Obj, H a = some (.frz o (.tup xs)) ∧ o.cls = .type "tuple" ∧ o.dict = none
theorem tupN_sq {K : PySem.W.Frag} {H : Hp} {a : Addr} {xs : List V} (h : TupN H a xs) : SqT K H a xs := by
  obtain ⟨o, h, _⟩ := h
  exact .inl (.inr ⟨o, h⟩)
theorem tupN_sm {H H' : Hp} (e : Same H H') {a : Addr} {xs : List V} (h : TupN H a xs) : TupN H' a xs := by
  obtain ⟨o, h, c⟩ := h
  exact ⟨o, e _ _ h, c⟩
/-- a Land stands at p -/
def LandAt (K : PySem.W.Frag) (H : Hp) (p : Addr) (L : LandD) : Prop := ∃ dx w pl l pa, H p = some (.ins (CL K) dx (lf w pl l pa)) ∧
  TupN H w (L.winds.map V.str) ∧ SqT K H pl (L.places.map V.str) ∧ Dp K H (.ref l) (.tuple (L.links.map lkD)) ∧ Dp K H (.ref pa) (.tuple (L.paths.map paD))
theorem land_sm {K : PySem.W.Frag} {H H' : Hp} (e : Same H H') {p : Addr} {L : LandD} (h : LandAt K H p L) : LandAt K H' p L := by
  obtain ⟨dx, w, pl, l, pa, h1, h2, h3, h4, h5⟩ := h
  exact ⟨dx, w, pl, l, pa, e _ _ h1, tupN_sm e h2, sm_tup e h3, dp_sm e _ _ h4, dp_sm e _ _ h5⟩
theorem lk_here {k : Str} {v : V} {r : List (Str × V)} : List.lookup k ((k, v) :: r) = some v := by
  have e : (k == k) = true := beq_self_eq_true k
  simp only [List.lookup, e]
theorem lk_past {k g : Str} {v : V} {r : List (Str × V)} (h : (k == g) = false) : List.lookup k ((g, v) :: r) = List.lookup k r := by
  simp only [List.lookup, h]
theorem lf_winds (w pl l pa : Addr) : (lf w pl l pa).lookup ("winds" : Str) = some (.ref w) := lk_here
theorem lf_places (w pl l pa : Addr) : (lf w pl l pa).lookup ("places" : Str) = some (.ref pl) := (lk_past (by decide +kernel)).trans lk_here
theorem lf_links (w pl l pa : Addr) : (lf w pl l pa).lookup ("links" : Str) = some (.ref l) := (lk_past (by decide +kernel)).trans ((lk_past (by decide +kernel)).trans lk_here)
theorem lf_paths (w pl l pa : Addr) : (lf w pl l pa).lookup ("paths" : Str) = some (.ref pa) := (lk_past (by decide +kernel)).trans ((lk_past (by decide +kernel)).trans ((lk_past (by decide +kernel)).trans lk_here))
theorem lf_no {w pl l pa : Addr} {m : Str} (h1 : (m == ("winds" : Str)) = false) (h2 : (m == ("places" : Str)) = false) (h3 : (m == ("links" : Str)) = false) (h4 : (m == ("paths" : Str)) = false) : (lf w pl l pa).lookup m = none :=
  (lk_past h1).trans ((lk_past h2).trans ((lk_past h3).trans ((lk_past h4).trans rfl)))
/-! ### defs that keep a promise -/
/-- the module's def x keeps the promise sp, at most k calls deep -/
def Has (P : Program) (w : World) (K : PySem.W.Frag) (mg : Str → Option Value) (base : Heap) (k : Nat) (x : Str) (ps : List Str) (sp : Sp) : Prop :=
  ∃ fd, Binds K fd ps [] ∧ FnOk P w K mg base CX0 k (He.ga K x) fd ps sp ∧ mg x = some (.ref (He.ga K x)) ∧ PySem.W.keepIn K (.ref (He.ga K x)) = true
/-- the method m of Land keeps it -/
def HasM (P : Program) (w : World) (K : PySem.W.Frag) (mg : Str → Option Value) (base : Heap) (k : Nat) (m : Str) (ps : List Str) (sp : Sp) : Prop :=
  ∃ fd, Binds K fd ps [] ∧ FnOk P w K mg base CX0 k (He.ma K (CL K) m) fd ps sp ∧ Meth K (CL K) m (He.ma K (CL K) m) ∧ Cls K (CL K)
section
variable {P : Program} {w : World} {K : PySem.W.Frag} {mg : Str → Option Value} {base : Heap}
theorem has_of {x : Str} {st : Stmt} {N ps : List Str} {k : Nat} {sp : Sp} (F : ∃ fd, Fd K x x st (He.ga K x) fd) (g : mg x = some (.ref (He.ga K x))) (S : FnScope N ps (defScope st)) (len : ∀ vs H Q E, sp vs H Q E → vs.length = ps.length)
    (hb : ∀ (kV doc pm : Value) (an : Option Addr) (cdv ct : Value) (us : List Value), us.length = ps.length → bindArgs (PySem.W.fnOf x x (defArgs st) (defBody st) (defScope st) .none kV doc pm an cdv ct) ⟨us, []⟩ = pure (ps.zip us))
    (body : ∀ (cdv : Value) (A : Around) (outer : List Env) (s : Shared) (H : Hp) (vs : List V) (Q : VK) (E : XK), Room k (A.deeper (envOfC x (defScope st) s.heap.objs.size (He.ga K x) cdv)) → sp vs H Q E →
      ∃ t, PSs (cxOf CX0 P w K mg base N x (defScope st) (He.ga K x) cdv A outer s H E).nox (defBody st) t ∧ t { nx := fun _ H' => Q .non H', rt := Q } (start N vs) H) : Has P w K mg base (k + 1) x ps sp := by
  obtain ⟨fd, F⟩ := F
  refine ⟨fd, F.bindsN hb, F.ok S len fun cdv A outer s H vs Q E hr hsp => ?_, g, F.kp⟩
  obtain ⟨t, h, q⟩ := body cdv A outer s H vs Q E hr hsp
  exact ⟨t, h.nox, q⟩
theorem hasM_of {m qual : Str} {st : Stmt} {N ps : List Str} {k : Nat} {sp : Sp} (F : ∃ fd, Fd K m qual st (He.ma K (CL K) m) fd) (g : Meth K (CL K) m (He.ma K (CL K) m)) (c : Cls K (CL K)) (S : FnScope N ps (defScope st)) (len : ∀ vs H Q E, sp vs H Q E → vs.length = ps.length)
    (hb : ∀ (kV doc pm : Value) (an : Option Addr) (cdv ct : Value) (us : List Value), us.length = ps.length → bindArgs (PySem.W.fnOf m qual (defArgs st) (defBody st) (defScope st) .none kV doc pm an cdv ct) ⟨us, []⟩ = pure (ps.zip us))
    (body : ∀ (cdv : Value) (A : Around) (outer : List Env) (s : Shared) (H : Hp) (vs : List V) (Q : VK) (E : XK), Room k (A.deeper (envOfC qual (defScope st) s.heap.objs.size (He.ma K (CL K) m) cdv)) → sp vs H Q E →
      ∃ t, PSs (cxOf CX0 P w K mg base N qual (defScope st) (He.ma K (CL K) m) cdv A outer s H E).nox (defBody st) t ∧ t { nx := fun _ H' => Q .non H', rt := Q } (start N vs) H) : HasM P w K mg base (k + 1) m ps sp := by
  obtain ⟨fd, F⟩ := F
  refine ⟨fd, F.bindsN hb, F.ok S len fun cdv A outer s H vs Q E hr hsp => ?_, g, c⟩
  obtain ⟨t, h, q⟩ := body cdv A outer s H vs Q E hr hsp
  exact ⟨t, h.nox, q⟩
theorem Has.mono {j k : Nat} {x : Str} {ps : List Str} {sp : Sp} (h : Has P w K mg base j x ps sp) (l : j ≤ k) : Has P w K mg base k x ps sp := by
  obtain ⟨fd, b, F, g, kp⟩ := h
  exact ⟨fd, b, F.mono l, g, kp⟩
theorem HasM.mono {j k : Nat} {x : Str} {ps : List Str} {sp : Sp} (h : HasM P w K mg base j x ps sp) (l : j ≤ k) : HasM P w K mg base k x ps sp := by
  obtain ⟨fd, b, F, g, kp⟩ := h
  exact ⟨fd, b, F.mono l, g, kp⟩
end
section
variable {X : Cx}
/-- a call of such a def -/
theorem pe_f {j k : Nat} {x : Str} {ps : List Str} {sp : Sp} {e : Expr} {es : List Expr} {p pos : Pos} {t : TA} (h : Has X.prog X.w X.K X.mg X.base j x ps sp) (hr : Room k X.A) (hg : Gl X x) (ha : PA X (e :: es) t) (hl : j ≤ k := by decide)
    (hdb : (x == ("__debug__" : Str)) = false := by decide) (he : starEach (e :: es) X.env = (false, eval e X.env) :: starEach es X.env := by rfl)
    (hpl : (backTo pos (starEach es X.env)).any (·.1) = false := by rfl) : PE X (.Call (.Name x p) (e :: es) [] pos) (tCall sp [] E0 t) := by
  obtain ⟨fd, b, F, g, kp⟩ := h.mono hl
  exact pe_call F hr hg g kp b .nil pass0 ha hdb he hpl
theorem pe_m {j k : Nat} {m : Str} {ps : List Str} {sp : Sp} {o e : Expr} {es : List Expr} {apos pos : Pos} {ta : TE} {t : TA} {pl : Sem Bool} (ho : PE X o ta) (h : HasM X.prog X.w X.K X.mg X.base j m ps sp) (hr : Room k X.A) (ha : PA X (e :: es) t) (hl : j ≤ k := by decide)
    (hst : starEach (e :: es) X.env = (false, eval e X.env) :: starEach es X.env := by rfl) (hpl : (backTo pos (starEach es X.env)).any (·.1) = false := by rfl)
    (ht : eval (.Call (.Attribute o m apos) (e :: es) [] pos) X.env = (do
      let ov ← eval o X.env
      standAt apos.atName
      let (f, first) ← holding [ov] (getMethod ov m pl)
      callWith pos f first (backTo pos (starEach (e :: es) X.env)) (backToKw pos (keywordEach [] X.env))) := by rfl) : PE X (.Call (.Attribute o m apos) (e :: es) [] pos) (tMeth (CL X.K) m sp [] E0 ta t) := by
  obtain ⟨fd, b, F, g, c⟩ := h.mono hl
  exact pe_meth ho c g F hr b .nil pass0 ha hst hpl ht
end
/-! ### list comprehensions whose items are data without lists -/
/-- D holds a list of the data ds -/
def LsAt (K : PySem.W.Frag) (H : Hp) (D : Addr) (ds : List PyData) : Prop := ∃ acc, H D = some (.lst acc) ∧ DpAll K H acc ds ∧ nlA ds = true
theorem nlA_app : ∀ (a b : List PyData), nlA (a ++ b) = (nlA a && nlA b)
  | [], b => by simp [nlA]
  | d :: a, b => by simp [nlA, nlA_app a b, Bool.and_assoc]
theorem lsAt_app {K : PySem.W.Frag} {H : Hp} {D : Addr} {ds : List PyData} {acc : List V} {v : V} {d : PyData} (h : H D = some (.lst acc)) (ha : DpAll K H acc ds) (n : nlA ds = true) (hv : Dp K H v d) (nd : nl d = true) :
    LsAt K (upd H D (.lst (acc ++ [v]))) D (ds ++ [d]) := by
  have e : Tps H (upd H D (.lst (acc ++ [v]))) := tps_upd h trivial
  exact ⟨acc ++ [v], upd_same, dpa_app (dpa_tps e _ _ n ha) (dpa_one (dp_tps e _ _ nd hv)), by rw [nlA_app, n]; simp [nlA, nd]⟩
theorem lsAt_sm {K : PySem.W.Frag} {H H' : Hp} {D : Addr} {ds : List PyData} (e : Same H H') (h : LsAt K H D ds) : LsAt K H' D ds := by
  obtain ⟨acc, h1, h2, h3⟩ := h
  exact ⟨acc, e _ _ h1, dpa_sm e _ _ h2, h3⟩
theorem lsAt_dp {K : PySem.W.Frag} {H : Hp} {D : Addr} {ds : List PyData} (h : LsAt K H D ds) : Dp K H (.ref D) (.list ds) := by
  obtain ⟨acc, h1, h2, h3⟩ := h
  exact .lst (SqL.of h1) h2
/-- kY: an item is laid; kN: none is -/
theorem lc_data {K : PySem.W.Frag} {J : It} {n : Nat} {G : Hp → Prop} {Y : Nat → Hp → V → Hp → Prop} (w : Walk J n G Y) {g : TG} {tt : TT} {te : TE} {vs : List Nat} {σ : L2.St} {H1 : Hp} {D : Addr} {Qd : Hp → Prop} (hD : H1 D = none)
    (ds : Nat → List PyData) (h0 : ds 0 = []) (hz : ∀ i, i < n → (ds i).length < sizeLine) (hG : ∀ H, Same H1 H → G H)
    (hs : ∀ i x H H' (N : Hp → Prop), i < n → Same H1 H → Y i H x H' → (∀ H4 y d, Same H H4 → Dp K H4 y d → nl d = true → ds (i + 1) = ds i ++ [d] → ∃ acc, H4 D = some (.lst acc) ∧ acc.length < sizeLine ∧ N (upd H4 D (.lst (acc ++ [y])))) →
      (∀ H3, Same H H3 → ds (i + 1) = ds i → N H3) → g x (wipe σ vs) H' fun σ2 H2 => wipe σ2 vs = wipe σ vs ∧ tt σ2 H2 fun b H3 =>
      if b = true then te σ2 H3 fun y H4 => ∃ acc, H4 D = some (.lst acc) ∧ acc.length < sizeLine ∧ N (upd H4 D (.lst (acc ++ [y]))) else N H3)
    (hd : ∀ H, Same H1 H → LsAt K H D (ds n) → Qd H) :
    ∃ W : Nat → Nat → Hp → Prop, (∃ m, W 0 m (upd H1 D (.lst []))) ∧ ∀ i m H, W i m H →
      (J.stop i H ∧ Qd H) ∨ (J.go i H ∧ ∃ Nx : Hp → Prop, (∀ H', Nx H' → ∃ m', m' < m ∧ W (i + 1) m' H') ∧ ∀ x H', J.yld i H x H' → g x (wipe σ vs) H' fun σ2 H2 => wipe σ2 vs = wipe σ vs ∧ tt σ2 H2 fun b H3 =>
        if b = true then te σ2 H3 fun y H4 => ∃ acc, H4 D = some (.lst acc) ∧ acc.length < sizeLine ∧ Nx (upd H4 D (.lst (acc ++ [y]))) else Nx H3) := by
  refine lc_it w (fun i H => Same H1 H ∧ LsAt K H D (ds i)) ⟨sm_up hD, [], upd_same, by rw [h0]; exact .nil, by rw [h0]; rfl⟩ (fun i H _ p => hG H p.1) (fun i x H H' hi p y => ?_) fun H p => hd H p.1 p.2
  obtain ⟨s1, acc, hA, hdp, hnl⟩ := p
  refine hs i x H H' _ hi s1 y (fun H4 v d s4 h1 h2 e => ?_) fun H3 s3 e => ?_
  · refine ⟨acc, s4 _ _ hA, by rw [dpa_len hdp]; exact hz i hi, sm_mut (s1.trans s4) hD, ?_⟩
    rw [e]
    exact lsAt_app (s4 _ _ hA) (dpa_sm s4 _ _ hdp) hnl h1 h2
  · rw [e]
    exact ⟨s1.trans s3, lsAt_sm s3 ⟨acc, hA, hdp, hnl⟩⟩
/-! ### rules with the written part said (for what stands within a comprehension) -/
def rTupOf (K : PySem.W.Frag) : List V → Hp → VK → Prop := fun vs H Q => ∃ a ys, vs = [V.ref a] ∧ ((SqL K H a ys ∧ ∀ b, H b = none → Q (.ref b) (upd H b (.tup ys))) ∨ (SqT K H a ys ∧ Q (.ref a) H))
def rLenQ (K : PySem.W.Frag) : List V → Hp → VK → Prop := fun vs H Q => ∃ a ys, vs = [V.ref a] ∧ (SqL K H a ys ∨ SqT K H a ys) ∧ Q (.int ys.length) H
section
variable (K : PySem.W.Frag) {X : Cx}
theorem ixL_ (h : X.K = K := by rfl) : IxR X (rIxL K) := h ▸ ix_list
theorem ixT_ (h : X.K = K := by rfl) : IxR X (rIxT K) := h ▸ ix_tup
theorem cTup_ (h : X.K = K := by rfl) : CallR X (.type "tuple") (rTupOf K) := h ▸ call_tuple_of
theorem cLen_ (h : X.K = K := by rfl) : CallR X (.builtin "len") (rLenQ K) := h ▸ call_len_seq
theorem cAny_ (hc : X.calm = true) (h : X.K = K := by rfl) : CallR X (.builtin "any") (rAny K) := h ▸ cr_any hc
theorem cAll_ (hc : X.calm = true) (h : X.K = K := by rfl) : CallR X (.builtin "all") (rAll K) := h ▸ cr_all hc
theorem inS_ (h : X.K = K := by rfl) : OpR X (compareOp .In) (rIn K false) := h ▸ op_in_seq
theorem niS_ (h : X.K = K := by rfl) : OpR X (compareOp .NotIn) (rIn K true) := h ▸ op_notIn_seq
theorem slL_ (h : X.K = K := by rfl) : SlR X (rSlL K) := h ▸ sl_list
theorem slT_ (h : X.K = K := by rfl) : SlR X (rSlT K) := h ▸ sl_tup
theorem piL_ {tg l : Expr} {tl : TE} (hl : PE X l tl) (h : X.K = K := by rfl) : PI X tg l (iList K tl) := h ▸ pi_list hl
theorem piT_ {tg l : Expr} {tl : TE} (hl : PE X l tl) (h : X.K = K := by rfl) : PI X tg l (iTup K tl) := h ▸ pi_tup hl
end
/-! ### tuples without a dict: made, asked for a place -/
def rTupNw (K : PySem.W.Frag) : List V → Hp → VK → Prop := fun vs H Q => ∃ a ys, vs = [V.ref a] ∧ SqL K H a ys ∧ ∀ b H', H b = none → Same H H' → TupN H' b ys → Q (.ref b) H'
def rCatNw (K : PySem.W.Frag) : R2 := fun x y H Q => ∃ a b xs ys, x = V.ref a ∧ y = V.ref b ∧ SqT K H a xs ∧ SqT K H b ys ∧ xs ≠ [] ∧ ys ≠ [] ∧ (xs ++ ys).length ≤ sizeLine ∧ ∀ p H', H p = none → Same H H' → TupN H' p (xs ++ ys) → Q (.ref p) H'
def tTI (r : V → List V → Hp → VK → Prop) (to : TE) (t : TA) : TE := fun σ H Q => to σ H fun x H1 => (∃ a xs, x = V.ref a ∧ TupN H1 a xs) ∧ t σ H1 fun vs H2 => r x vs H2 Q
section
variable {X : Cx}
theorem cTupNw : CallR X (.type "tuple") (rTupNw X.K) := by
  intro pins s σ H vs us Q I r h
  obtain ⟨a, ys, rfl, hq, q⟩ := h
  obtain ⟨u, rfl, ru⟩ := vals1 r
  cases ru
  obtain ⟨its, rv, pl, hz⟩ := I.list hq
  have hl := rv.length
  refine call_tuple_list pl.isList (fun h1 kp => ?_) (by simp only [List.size_toArray] <;> omega)
  have J : Inv X pins σ H { s with heap := h1 } := I.kept (t' := s.toks) kp
  let ob : Obj := { cls := .type "tuple", data := .seq its.toArray }
  have gt : (h1.push ob).get? h1.objs.size = some ob := Heap.get?_push_size _ rfl
  have J2 : Inv X pins σ (upd H h1.objs.size (.frz ob (.tup ys))) { s with heap := h1.push ob } :=
    J.laid (t' := s.toks) (fun b o e => Heap.get?_push_of_some _ e) (Nat.le_refl _) (show ObjOk X.prog X.w _ _ _ (.frz ob (.tup ys)) from ⟨gt, hz, its, rv, ob, gt, rfl, _, rfl⟩)
  have hn := J.hok.fresh (Nat.le_refl _)
  exact ⟨.ref h1.objs.size, _, J2, rfl, q _ _ hn (sm_up hn) ⟨ob, upd_same, rfl, rfl⟩⟩
theorem opCatNw : OpR X (binaryOp .Add) (rCatNw X.K) := by
  intro pins s σ H x y v u Q I rx ry h
  obtain ⟨a, b, xs, ys, rfl, rfl, ha, hb, hx, hy, hz, q⟩ := h
  cases rx
  cases ry
  obtain ⟨is1, r1, p1, _⟩ := I.tuple ha
  obtain ⟨is2, r2, p2, _⟩ := I.tuple hb
  refine HT.cat_tup p1 p2 (fun z => hx (r1.nil_iff.mp z)) (fun z => absurd (r2.nil_iff.mp z) hy) (fun z => ?_) (by rw [List.length_append] at hz; rw [← r1.length, ← r2.length]; exact hz)
  let ob : Obj := { cls := .type "tuple", data := .seq (is1 ++ is2).toArray }
  have gt : (s.heap.push ob).get? s.heap.objs.size = some ob := Heap.get?_push_size _ rfl
  have hn := I.hok.fresh (Nat.le_refl _)
  exact ⟨.ref s.heap.objs.size, _, I.laid (t' := s.toks) (o := .frz ob (.tup (xs ++ ys))) (fun b ob q => Heap.get?_push_of_some _ q) (Nat.le_refl _) ⟨gt, hz, is1 ++ is2, r1.append r2, ob, gt, rfl, _, rfl⟩, rfl,
    q _ _ hn (sm_up hn) ⟨ob, upd_same, rfl, rfl⟩⟩
theorem pe_ti {o e : Expr} {es : List Expr} {to : TE} {t : TA} {name : Str} {apos cpos : Pos} {id : String} {r : V → List V → Hp → VK → Prop} (slot : Slot "tuple" name id) (hty : typeOf (.builtin id) = pure (.type "method_descriptor")) (hm : MtR X id r) (ho : PE X o to) (ha : PA X (e :: es) t)
    (hb : attributeBase o name X.env (eval o X.env) = eval o X.env := by rfl)
    (hw : ((backTo cpos (starEach (e :: es) X.env)).all (fun x => !x.1) && (backToKw cpos (keywordEach [] X.env)).all (fun x => x.1.isSome) && decide ((e :: es).length + ([] : List Keyword).length + (if ([] : List Keyword).isEmpty then 0 else 1) < 30)) = true := by rfl)
    (hl : (apos.endLine == cpos.line) = true := by rfl) (hs : starEach (e :: es) X.env = (false, eval e X.env) :: starEach es X.env := by rfl) (hp : (backTo cpos (starEach es X.env)).any (·.1) = false := by rfl) :
    PE X (.Call (.Attribute o name apos) (e :: es) [] cpos) (tTI r to t) := by
  refine ⟨fun pins s σ H Q I h => ?_⟩
  refine wpAny_Call_method_late hb hw hl rfl (thn (ho.run pins s σ H _ I h) fun v s1 ⟨x, H1, I1, r1, tn, q1⟩ => ?_)
  obtain ⟨a, xs, rfl, ob, hob, hc, hd⟩ := tn
  cases r1
  have gt : s1.heap.get? a = some ob := (I1.hok a _ hob).1
  refine ⟨"tuple", id, PySem.F.plainAttrs_tuple, slot, hty, ⟨ob, gt, hc⟩, fun b eb => ?_, ?_⟩
  · cases eb
    exact ⟨ob, gt, hd⟩
  · have hA := ha.run cpos pins s1 σ H1 _ I1 q1
    rw [hs] at hA ⊢
    refine Calls.callWith_builtin (by show (false || (backTo cpos (starEach es X.env)).any (·.1)) = false; rw [hp]; rfl) (Calls.evalArgs_plain ?_)
    exact thn hA fun us s2 ⟨vs, H2, I2, r2, q2⟩ => hm pins s2 σ H2 (.ref a) vs _ us Q I2 rfl r2 q2
end
theorem inV_str (z : Str) : ∀ ss : List Str, inV (.str z) (ss.map V.str) = decide (z ∈ ss)
  | [] => rfl
  | s :: ss => by
    have ih := inV_str z ss
    show ((s == z) || inV (.str z) (ss.map V.str)) = _
    rw [ih]
    by_cases h : s = z
    · subst h
      simp
    · have e1 : (s == z) = false := by
        cases q : s == z with
        | false => rfl
        | true => exact absurd (eq_of_beq q) h
      have h' : ¬ z = s := fun e => h e.symm
      rw [e1]
      simp [h']
theorem flat_strs (ss : List Str) : (ss.map V.str).all flatV = true := by
  rw [List.all_map]
  exact List.all_eq_true.mpr fun _ _ => rfl
section
variable {P : Program} {w : World} {K : PySem.W.Frag} {mg : Str → Option Value} {base : Heap}
/-! ### require -/
def spRequire : Sp := fun vs H Q _ => vs = [.bl true] ∧ Q .non H
theorem scRequire : FnScope ["holds"] ["holds"] (defScope sRequire) := ⟨rfl, rfl, rfl, by decide +kernel, rfl, by decide +kernel, by decide +kernel⟩
theorem ok_require (T : Txt K mg) : Has P w K mg base 1 "require" ["holds"] spRequire := by
  refine has_of T.dRequire T.gRequire scRequire (fun vs H Q E h => by obtain ⟨rfl, _⟩ := h; rfl) (fun _ _ _ _ _ _ us hl => match us, hl with | [_], _ => rfl) fun cdv A outer s H vs Q E hr h => ?_
  obtain ⟨rfl, k⟩ := h
  refine ⟨_, pss_one (ps_if (pt_not (pt_val (pv 0))) (pss_one ps_never) pss_nil), ?_⟩
  exact ⟨_, rfl, true, rfl, iteF k⟩
/-! ### Land.check_place, check_wind, are_ends -/
def spCheckPlace (K : PySem.W.Frag) : Sp := fun vs H Q _ => ∃ p L z, vs = [.ref p, .str z] ∧ LandAt K H p L ∧ z ∈ L.places ∧ Q .non H
theorem scCheckPlace : FnScope ["self", "place"] ["self", "place"] (defScope sCheckPlace) := ⟨rfl, rfl, rfl, by decide +kernel, rfl, by decide +kernel, by decide +kernel⟩
theorem ok_check_place (T : Txt K mg) : HasM P w K mg base 1 "check_place" ["self", "place"] (spCheckPlace K) := by
  refine hasM_of T.dCheckPlace T.mCheckPlace T.cl scCheckPlace (fun vs H Q E h => by obtain ⟨p, L, z, rfl, _⟩ := h; rfl) (fun _ _ _ _ _ _ us hl => match us, hl with | [_, _], _ => rfl) fun cdv A outer s H vs Q E hr h => ?_
  obtain ⟨p, L, z, rfl, ⟨dx, w, pl, l, pa, hp, hw, hpl, _⟩, hz, k⟩ := h
  refine ⟨_, pss_one (ps_if (pt_cmpR op_notIn_seq (pv 1) (pe_fld (pv 0) rfl) (by rfl)) (pss_one ps_never) pss_nil), ?_⟩
  refine ⟨_, rfl, _, rfl, p, CL K, dx, _, _, rfl, hp, T.cl, T.nPlaces, lf_places _ _ _ _, pl, _, rfl, .inr hpl, rfl, flat_strs _, false, ?_, iteF k⟩
  rw [inV_str, decide_eq_true hz]
  rfl
def spCheckWind (K : PySem.W.Frag) : Sp := fun vs H Q _ => ∃ p L z, vs = [.ref p, .str z] ∧ LandAt K H p L ∧ z ∈ L.winds ∧ Q .non H
theorem scCheckWind : FnScope ["self", "wind"] ["self", "wind"] (defScope sCheckWind) := ⟨rfl, rfl, rfl, by decide +kernel, rfl, by decide +kernel, by decide +kernel⟩
theorem ok_check_wind (T : Txt K mg) : HasM P w K mg base 1 "check_wind" ["self", "wind"] (spCheckWind K) := by
  refine hasM_of T.dCheckWind T.mCheckWind T.cl scCheckWind (fun vs H Q E h => by obtain ⟨p, L, z, rfl, _⟩ := h; rfl) (fun _ _ _ _ _ _ us hl => match us, hl with | [_, _], _ => rfl) fun cdv A outer s H vs Q E hr h => ?_
  obtain ⟨p, L, z, rfl, ⟨dx, w, pl, l, pa, hp, hw, hpl, _⟩, hz, k⟩ := h
  refine ⟨_, pss_one (ps_if (pt_cmpR op_notIn_seq (pv 1) (pe_fld (pv 0) rfl) (by rfl)) (pss_one ps_never) pss_nil), ?_⟩
  refine ⟨_, rfl, _, rfl, p, CL K, dx, _, _, rfl, hp, T.cl, T.nWinds, lf_winds _ _ _ _, w, _, rfl, .inr (tupN_sq hw), rfl, flat_strs _, false, ?_, iteF k⟩
  rw [inV_str, decide_eq_true hz]
  rfl
/-- self may be a land in the making: only its places stand -/
def spAreEnds (K : PySem.W.Frag) : Sp := fun vs H Q _ => ∃ (p dx : Addr) (fs : List (Str × V)) (pl : Addr) (ps : List Str) (a b : Str), vs = [.ref p, .str a, .str b] ∧ H p = some (.ins (CL K) dx fs) ∧ fs.lookup ("places" : Str) = some (.ref pl) ∧ SqT K H pl (ps.map V.str) ∧ a ∈ ps ∧ b ∈ ps ∧ a ≠ b ∧ Q (.bl true) H
theorem scAreEnds : FnScope ["self", "one", "other"] ["self", "one", "other"] (defScope sAreEnds) := ⟨rfl, rfl, rfl, by decide +kernel, rfl, by decide +kernel, by decide +kernel⟩
theorem ok_are_ends (T : Txt K mg) : HasM P w K mg base 1 "are_ends" ["self", "one", "other"] (spAreEnds K) := by
  refine hasM_of T.dAreEnds T.mAreEnds T.cl scAreEnds (fun vs H Q E h => by obtain ⟨p, dx, fs, pl, ps, a, b, rfl, _⟩ := h; rfl) (fun _ _ _ _ _ _ us hl => match us, hl with | [_, _, _], _ => rfl) fun cdv A outer s H vs Q E hr h => ?_
  obtain ⟨p, dx, fs, pl, ps, a, b, rfl, hp, hf, hpl, ha, hb, hab, k⟩ := h
  have e1 : inV (.str a) (ps.map V.str) = true := by rw [inV_str, decide_eq_true ha]
  have e2 : inV (.str b) (ps.map V.str) = true := by rw [inV_str, decide_eq_true hb]
  refine ⟨_, pss_one (ps_ret (pe_and (pe_cmpR op_in_seq (pv 1) (pe_fld (pv 0) rfl) (by rfl)) (pe_and (pe_cmpR op_in_seq (pv 2) (pe_fld (pv 0) rfl) (by rfl)) (pe_one (pe_cmpR op_ne (pv 1) (pv 2) (nomark _)))))), ?_⟩
  refine ⟨_, rfl, _, rfl, p, CL K, dx, _, _, rfl, hp, T.cl, T.nPlaces, hf, pl, _, rfl, .inr hpl, rfl, flat_strs _, true, by rw [e1]; rfl, iteT ?_⟩
  refine ⟨_, rfl, _, rfl, p, CL K, dx, _, _, rfl, hp, T.cl, T.nPlaces, hf, pl, _, rfl, .inr hpl, rfl, flat_strs _, true, by rw [e2]; rfl, iteT ?_⟩
  refine ⟨_, rfl, _, rfl, rfl, ?_⟩
  have e3 : (!decide (V.str a = V.str b)) = true := by
    have : ¬ V.str a = V.str b := fun e => hab (V.str.inj e)
    simp [this]
  show Q (.bl (!decide (V.str a = V.str b))) H
  rw [e3]
  exact k
/-! ### is_number -/
def NumOk : Option Int → Pr → Prop
  | none, none => True
  | some n, some (l, m) => l ≤ n ∧ n ≤ m
  | _, _ => False
def spIsNumber (K : PySem.W.Frag) : Sp := fun vs H Q _ => ∃ o pr v, vs = [oiV o, v] ∧ Dp K H v (prD pr) ∧ NumOk o pr ∧ Q (.bl true) H
theorem scIsNumber : FnScope ["number", "pair"] ["number", "pair"] (defScope sIsNumber) := ⟨rfl, rfl, rfl, by decide +kernel, rfl, by decide +kernel, by decide +kernel⟩
theorem ok_is_number (T : Txt K mg) : Has P w K mg base 1 "is_number" ["number", "pair"] (spIsNumber K) := by
  refine has_of T.dIsNumber T.gIsNumber scIsNumber (fun vs H Q E h => by obtain ⟨o, pr, v, rfl, _⟩ := h; rfl) (fun _ _ _ _ _ _ us hl => match us, hl with | [_, _], _ => rfl) fun cdv A outer s H vs Q E hr h => ?_
  obtain ⟨o, pr, v, rfl, hv, hn, k⟩ := h
  refine ⟨_, pss_cons (ps_if (PW.pt (pw_or (pt_cmp (pc_isN (pv 0))) (pw_or1 (pt_cmp (pc_isN (pv 1)))))) (pss_one (ps_ret (pe_and (pe_cmp (pc_isN (pv 0)) rfl) (pe_one (pe_cmp (pc_isN (pv 1)) rfl))))) pss_nil)
    (pss_one (ps_ret (pe_chain op_le op_le (pe_ix ix_tup (pv 1) pe_int (fun _ _ => rfl)) (pv 0) (pe_ix ix_tup (pv 1) pe_int (fun _ _ => rfl))))), ?_⟩
  cases o with
  | none =>
    cases pr with
    | some q => exact absurd hn id
    | none =>
      have e := dp_non hv
      subst e
      exact ⟨_, rfl, true, rfl, iteT (iteT ⟨_, rfl, true, rfl, iteT ⟨_, rfl, k⟩⟩)⟩
  | some n =>
    cases pr with
    | none => exact absurd hn id
    | some q =>
      obtain ⟨l, m⟩ := q
      obtain ⟨a, x, y, rfl, hs, hx, hy⟩ := dp_tup2 hv
      have ex := dp_int hx
      have ey := dp_int hy
      subst ex ey
      obtain ⟨h1, h2⟩ := hn
      refine ⟨_, rfl, false, rfl, iteF ?_⟩
      refine ⟨_, rfl, false, rfl, iteF ?_⟩
      refine ⟨_, rfl, a, _, 0, _, rfl, rfl, hs, rfl, _, rfl, l, n, rfl, rfl, true, ?_, iteT ?_⟩
      · show V.bl (decide (l ≤ n)) = V.bl true
        rw [decide_eq_true h1]
      · refine ⟨_, rfl, a, _, 1, _, rfl, rfl, hs, rfl, n, m, rfl, rfl, ?_⟩
        show Q (.bl (decide (n ≤ m))) H
        rw [decide_eq_true h2]
        exact k
end
/-- a row (place, minute) | (minute, wind) -/
def srD (r : Str × Int) : PyData := .tuple [.str r.1, .int r.2]
def wrD (r : Int × Str) : PyData := .tuple [.int r.1, .str r.2]
theorem nl_sr (r : Str × Int) : nl (srD r) = true := by simp [srD, nl, nlA]
theorem nl_wr (r : Int × Str) : nl (wrD r) = true := by simp [wrD, nl, nlA]
theorem get_map {α β : Type} {f : α → β} {l : List α} {i : Nat} {d : β} (h : (l.map f)[i]? = some d) : ∃ a, l[i]? = some a ∧ d = f a := by
  rw [List.getElem?_map] at h
  cases e : l[i]? with
  | none =>
    rw [e] at h
    cases h
  | some a =>
    rw [e] at h
    exact ⟨a, rfl, (Option.some.inj h).symm⟩
section
variable {P : Program} {w : World} {K : PySem.W.Frag} {mg : Str → Option Value} {base : Heap}
/-! ### check_rows, check_winds -/
def spCheckRows (K : PySem.W.Frag) : Sp := fun vs H Q _ => ∃ (p : Addr) (L : LandD) (v : V) (rows : List (Str × Int)), vs = [.ref p, v] ∧ LandAt K H p L ∧ Dp K H v (.list (rows.map srD)) ∧ (∀ r ∈ rows, r.1 ∈ L.places) ∧ Q .non H
theorem scCheckRows : FnScope ["land", "rows", "place", "_"] ["land", "rows"] (defScope sCheckRows) := ⟨rfl, rfl, rfl, by decide +kernel, rfl, by decide +kernel, by decide +kernel⟩
theorem ok_check_rows (T : Txt K mg) : Has P w K mg base 2 "check_rows" ["land", "rows"] (spCheckRows K) := by
  have G : HasM P w K mg base 1 "check_place" ["self", "place"] (spCheckPlace K) := ok_check_place T
  refine has_of T.dCheckRows T.gCheckRows scCheckRows (fun vs H Q E h => by obtain ⟨p, L, v, rows, rfl, _⟩ := h; rfl) (fun _ _ _ _ _ _ us hl => match us, hl with | [_, _], _ => rfl) fun cdv A outer s H vs Q E hr h => ?_
  obtain ⟨p, L, v, rows, rfl, hL, hv, hm, k⟩ := h
  obtain ⟨a, xs, rfl, hS, hd⟩ := dp_lst hv
  refine ⟨_, pss_one (ps_for PassesOwn.never rfl (pi_list (pv 1)) (pg_tup rfl (pgs_cons (pg_name (i := 2) scCheckRows.nd rfl (.inl rfl)) (pgs_cons (pg_name (i := 3) scCheckRows.nd rfl (.inl rfl)) pgs_nil)))
    (pss_one (ps_expr (pe_m (pv 0) G hr (pa_cons (pv 2) pa_nil))))), ?_⟩
  refine ⟨_, rfl, a, rfl, ⟨_, hS⟩, for_list (K := K) (a := a) (xs := xs) (fun i σ H' => H' = H ∧ ∃ u1 u2, σ = [some (.ref p), some (.ref a), u1, u2]) ⟨rfl, none, none, rfl⟩ (fun i σ H' _ q => by rw [q.1]; exact hS) ?_ ?_⟩
  · rintro i x σ H' hx ⟨rfl, u1, u2, rfl⟩
    obtain ⟨d, h1, h2⟩ := dpa_get hd hx
    obtain ⟨r, h3, rfl⟩ := get_map h1
    obtain ⟨b, y, z, rfl, hs, hy, hz⟩ := dp_tup2 h2
    obtain rfl := dp_str hy
    obtain ⟨dx, w', pl, l, pa, hp, _⟩ := id hL
    refine ⟨b, _, rfl, hs, rfl, _, _, rfl, _, _, rfl, rfl, ?_⟩
    refine ⟨_, rfl, p, dx, _, rfl, hp, lf_no (by decide +kernel) (by decide +kernel) (by decide +kernel) (by decide +kernel), _, rfl, p, L, r.1, rfl, hL, hm r (List.mem_of_getElem? h3), ?_⟩
    exact ⟨rfl, _, _, rfl⟩
  · rintro σ H' ⟨rfl, _⟩
    exact k
def spCheckWinds (K : PySem.W.Frag) : Sp := fun vs H Q _ => ∃ (p : Addr) (L : LandD) (v : V) (rows : List (Int × Str)), vs = [.ref p, v] ∧ LandAt K H p L ∧ Dp K H v (.list (rows.map wrD)) ∧ (∀ r ∈ rows, r.2 ∈ L.winds) ∧ Q .non H
theorem scCheckWinds : FnScope ["land", "weather", "_", "wind"] ["land", "weather"] (defScope sCheckWinds) := ⟨rfl, rfl, rfl, by decide +kernel, rfl, by decide +kernel, by decide +kernel⟩
theorem ok_check_winds (T : Txt K mg) : Has P w K mg base 2 "check_winds" ["land", "weather"] (spCheckWinds K) := by
  have G : HasM P w K mg base 1 "check_wind" ["self", "wind"] (spCheckWind K) := ok_check_wind T
  refine has_of T.dCheckWinds T.gCheckWinds scCheckWinds (fun vs H Q E h => by obtain ⟨p, L, v, rows, rfl, _⟩ := h; rfl) (fun _ _ _ _ _ _ us hl => match us, hl with | [_, _], _ => rfl) fun cdv A outer s H vs Q E hr h => ?_
  obtain ⟨p, L, v, rows, rfl, hL, hv, hm, k⟩ := h
  obtain ⟨a, xs, rfl, hS, hd⟩ := dp_lst hv
  refine ⟨_, pss_one (ps_for PassesOwn.never rfl (pi_list (pv 1)) (pg_tup rfl (pgs_cons (pg_name (i := 2) scCheckWinds.nd rfl (.inl rfl)) (pgs_cons (pg_name (i := 3) scCheckWinds.nd rfl (.inl rfl)) pgs_nil)))
    (pss_one (ps_expr (pe_m (pv 0) G hr (pa_cons (pv 3) pa_nil))))), ?_⟩
  refine ⟨_, rfl, a, rfl, ⟨_, hS⟩, for_list (K := K) (a := a) (xs := xs) (fun i σ H' => H' = H ∧ ∃ u1 u2, σ = [some (.ref p), some (.ref a), u1, u2]) ⟨rfl, none, none, rfl⟩ (fun i σ H' _ q => by rw [q.1]; exact hS) ?_ ?_⟩
  · rintro i x σ H' hx ⟨rfl, u1, u2, rfl⟩
    obtain ⟨d, h1, h2⟩ := dpa_get hd hx
    obtain ⟨r, h3, rfl⟩ := get_map h1
    obtain ⟨b, y, z, rfl, hs, hy, hz⟩ := dp_tup2 h2
    obtain rfl := dp_str hz
    obtain ⟨dx, w', pl, l, pa, hp, _⟩ := id hL
    refine ⟨b, _, rfl, hs, rfl, _, _, rfl, _, _, rfl, rfl, ?_⟩
    refine ⟨_, rfl, p, dx, _, rfl, hp, lf_no (by decide +kernel) (by decide +kernel) (by decide +kernel) (by decide +kernel), _, rfl, p, L, r.2, rfl, hL, hm r (List.mem_of_getElem? h3), ?_⟩
    exact ⟨rfl, _, _, rfl⟩
  · rintro σ H' ⟨rfl, _⟩
    exact k
/-! ### blowing, chances -/
/-- the wind of a minute -/
def windAt (ws : List (Int × Str)) (m : Int) : Option Str := ((ws.filter fun r => decide (r.1 ≤ m)).getLast?).map (·.2)
def spBlowing (K : PySem.W.Frag) : Sp := fun vs H Q _ => ∃ (v : V) (ws : List (Int × Str)) (m : Int) (x : Str), vs = [v, .int m] ∧ Dp K H v (.list (ws.map wrD)) ∧ ws.length ≤ 1000 ∧ windAt ws m = some x ∧ ∀ H', Same H H' → Q (.str x) H'
theorem scBlowing : FnScope ["weather", "minute", "start", "wind"] ["weather", "minute"] (defScope sBlowing) := ⟨rfl, rfl, rfl, by decide +kernel, rfl, by decide +kernel, by decide +kernel⟩
theorem take_snoc {α : Type} : ∀ {l : List α} {i : Nat} {x : α}, l[i]? = some x → l.take (i + 1) = l.take i ++ [x]
  | [], i, x, h => by simp at h
  | a :: l, 0, x, h => by
    have e : a = x := Option.some.inj h
    subst e
    rfl
  | a :: l, i + 1, x, h => by
    have ih := take_snoc (l := l) (i := i) (x := x) h
    show a :: l.take (i + 1) = a :: l.take i ++ [x]
    rw [ih]
    rfl
theorem atI_neg1 {α : Type} {xs : List α} {v : α} (h : xs.getLast? = some v) : atI xs (-1) = some v := by
  have e : xs = xs.dropLast ++ [v] := by
    obtain ⟨hne, e⟩ := List.getLast?_eq_some_iff.mp h
    rw [e]
    simp
  rw [e]
  exact atI_last _ _
theorem ok_blowing (T : Txt K mg) : Has P w K mg base 1 "blowing" ["weather", "minute"] (spBlowing K) := by
  refine has_of T.dBlowing T.gBlowing scBlowing (fun vs H Q E h => by obtain ⟨v, ws, m, x, rfl, _⟩ := h; rfl) (fun _ _ _ _ _ _ us hl => match us, hl with | [_, _], _ => rfl) fun cdv A outer s H vs Q E hr h => ?_
  obtain ⟨v, ws, m, x, rfl, hv, hz, hx, k⟩ := h
  obtain ⟨a, xs, rfl, hS, hd⟩ := dp_lst hv
  have hlen : xs.length = ws.length := by rw [dpa_len hd, List.length_map]
  refine ⟨_, pss_one (ps_ret (pe_ix ix_list (pe_lc (own := [("start", 2), ("wind", 3)]) (g := gTup K 2 (gCons (gName 2) (gCons (gName 3) gNil))) (by rfl) scBlowing.nd (pi_list (pv 0)) (blkOk_by (N := ["weather", "minute", "start", "wind"]) (sc := defScope sBlowing) (by decide +kernel))
    (fun _ _ _ _ _ => pg_tup rfl (pgs_cons (pg_name (i := 2) scBlowing.nd rfl (Or.inl rfl)) (pgs_cons (pg_name (i := 3) scBlowing.nd rfl (Or.inl rfl)) pgs_nil)))
    (fun _ _ _ _ _ => pts_one (pt_cmp (pc_le (pv 2) (pv 1)))) (fun _ _ _ _ _ => pv 3)) (pe_un un_neg pe_int) (fun _ _ => rfl))), ?_⟩
  refine ⟨_, rfl, a, rfl, ⟨_, hS⟩, fun D hD => lc_data (K := K) walk_list hD (fun i => ((ws.take i).filter fun r => decide (r.1 ≤ m)).map fun r => PyData.str r.2) rfl (fun i hi => ?_) (fun H' e => e.seq hS) ?_ ?_⟩
  · rw [List.length_map]
    refine Nat.lt_of_le_of_lt (List.length_filter_le _ _) (small1000 ?_)
    rw [List.length_take]
    omega
  · rintro i u H1 H2 N hi e1 ⟨rfl, hu⟩ kY kN
    obtain ⟨d, h1, h2⟩ := dpa_get hd hu
    obtain ⟨r, h3, rfl⟩ := get_map h1
    obtain ⟨b, y, z, rfl, hs, hy, hz⟩ := dp_tup2 (dp_sm e1 _ _ h2)
    obtain rfl := dp_int hy
    obtain rfl := dp_str hz
    refine ⟨b, _, rfl, hs, rfl, _, _, rfl, _, _, rfl, rfl, rfl, _, rfl, _, rfl, _, _, rfl, rfl, _, rfl, ?_⟩
    refine ite2 (fun c => ⟨_, rfl, kY _ _ (.str r.2) (Same.refl _) (.str _) rfl ?_⟩) fun c => kN _ (Same.refl _) ?_
    · have c' : r.1 ≤ m := of_decide_eq_true c
      rw [take_snoc h3, List.filter_append, List.map_append]
      simp [c']
    · have c' : ¬ r.1 ≤ m := fun q => c (decide_eq_true q)
      rw [take_snoc h3, List.filter_append, List.map_append]
      simp [c']
  · intro H1 e1 hls
    obtain ⟨acc, hA, hdp, _⟩ := hls
    have e2 : acc = (ws.filter fun r => decide (r.1 ≤ m)).map fun r => V.str r.2 := by
      have q := hdp
      rw [hlen, List.take_length] at q
      have q2 : DpAll K H1 acc (((ws.filter fun r => decide (r.1 ≤ m)).map (·.2)).map PyData.str) := by
        rw [List.map_map]
        exact q
      rw [dpa_ofStrs q2, List.map_map]
      rfl
    refine ⟨1, rfl, D, acc, -1, .str x, rfl, rfl, SqL.of hA, atI_neg1 ?_, k H1 e1⟩
    rw [e2, List.getLast?_map]
    unfold windAt at hx
    cases q : (ws.filter fun r => decide (r.1 ≤ m)).getLast? with
    | none =>
      rw [q] at hx
      cases hx
    | some r =>
      rw [q] at hx
      have e3 : r.2 = x := Option.some.inj hx
      rw [← e3]
      rfl
end
/-- the minutes of setting out -/
def chancesL (ws : List (Int × Str)) (m : Int) : List Int := m :: (ws.filter fun r => decide (m < r.1)).map (·.1)
/-- a weather as it should be -/
structure WOk (ws : List (Int × Str)) : Prop where
  ne : 1 ≤ ws.length
  sz : ws.length ≤ 40
  at0 : ∀ r, ws[0]? = some r → r.1 = 0
  asc : ∀ (i : Nat) r s, ws[i]? = some r → ws[i + 1]? = some s → r.1 < s.1
  most : ∀ r ∈ ws, r.1 ≤ 100000
theorem any_rep : ∀ n : Nat, (List.replicate n false).any id = false
  | 0 => rfl
  | n + 1 => by
    rw [List.replicate_succ, List.any_cons, any_rep n]
    rfl
theorem dpa_bools {K : PySem.W.Frag} {H : Hp} : ∀ {bs : List Bool} {vs : List V}, DpAll K H vs (bs.map PyData.bool) → vs = bs.map V.bl
  | [], _, h => by
    cases h
    rfl
  | s :: ss, _, h => by
    cases h with
    | cons a t => rw [dp_bl a, dpa_bools t] <;> rfl
theorem dpa_ofInts {K : PySem.W.Frag} {H : Hp} : ∀ {ss : List Int} {vs : List V}, DpAll K H vs (ss.map PyData.int) → vs = ss.map V.int
  | [], _, h => by
    cases h
    rfl
  | s :: ss, _, h => by
    cases h with
    | cons a t => rw [dp_int a, dpa_ofInts t] <;> rfl
theorem small_le {n : Nat} (h : n ≤ 1000) : n ≤ sizeLine := Nat.le_of_lt (small1000 h)
section
variable {P : Program} {w : World} {K : PySem.W.Frag} {mg : Str → Option Value} {base : Heap}
def spChances (K : PySem.W.Frag) : Sp := fun vs H Q _ => ∃ (v : V) (ws : List (Int × Str)) (m : Int), vs = [v, .int m] ∧ Dp K H v (.list (ws.map wrD)) ∧ ws.length ≤ 900 ∧
  ∀ p H', Same H H' → H' p = some (.lst ((chancesL ws m).map V.int)) → Q (.ref p) H'
theorem scChances : FnScope ["weather", "minute", "start", "_"] ["weather", "minute"] (defScope sChances) := ⟨rfl, rfl, rfl, by decide +kernel, rfl, by decide +kernel, by decide +kernel⟩
theorem ok_chances (T : Txt K mg) : Has P w K mg base 1 "chances" ["weather", "minute"] (spChances K) := by
  refine has_of T.dChances T.gChances scChances (fun vs H Q E h => by obtain ⟨v, ws, m, rfl, _⟩ := h; rfl) (fun _ _ _ _ _ _ us hl => match us, hl with | [_, _], _ => rfl) fun cdv A outer s H vs Q E hr h => ?_
  obtain ⟨v, ws, m, rfl, hv, hz, k⟩ := h
  obtain ⟨a, xs, rfl, hS, hd⟩ := dp_lst hv
  have hlen : xs.length = ws.length := by rw [dpa_len hd, List.length_map]
  refine ⟨_, pss_one (ps_ret (pe_op op_cat (pe_lst (pa_cons (pv 1) pa_nil)) (pe_lc (own := [("start", 2), ("_", 3)]) (g := gTup K 2 (gCons (gName 2) (gCons (gName 3) gNil))) (by rfl) scChances.nd (pi_list (pv 0)) (blkOk_by (N := ["weather", "minute", "start", "_"]) (sc := defScope sChances) (by decide +kernel))
    (fun _ _ _ _ _ => pg_tup rfl (pgs_cons (pg_name (i := 2) scChances.nd rfl (Or.inl rfl)) (pgs_cons (pg_name (i := 3) scChances.nd rfl (Or.inl rfl)) pgs_nil)))
    (fun _ _ _ _ _ => pts_one (pt_cmp (pc_gt (pv 2) (pv 1)))) (fun _ _ _ _ _ => pv 2)))), ?_⟩
  refine ⟨_, rfl, by show 1 ≤ sizeLine; decide, fun p0 hp0 => ?_⟩
  have s0 : Same H (upd H p0 (.lst [.int m])) := sm_up hp0
  refine ⟨_, rfl, a, rfl, ⟨_, s0.seq hS⟩, fun D hD => lc_data (K := K) walk_list hD (fun i => ((ws.take i).filter fun r => decide (m < r.1)).map fun r => PyData.int r.1) rfl (fun i hi => ?_) (fun H' e => (s0.trans e).seq hS) ?_ ?_⟩
  · rw [List.length_map]
    refine Nat.lt_of_le_of_lt (List.length_filter_le _ _) (small1000 ?_)
    rw [List.length_take]
    omega
  · rintro i u H1 H2 N hi e1 ⟨rfl, hu⟩ kY kN
    obtain ⟨d, h1, h2⟩ := dpa_get hd hu
    obtain ⟨r, h3, rfl⟩ := get_map h1
    obtain ⟨b, y, z, rfl, hs, hy, hz⟩ := dp_tup2 (dp_sm (s0.trans e1) _ _ h2)
    obtain rfl := dp_int hy
    obtain rfl := dp_str hz
    refine ⟨b, _, rfl, hs, rfl, _, _, rfl, _, _, rfl, rfl, rfl, _, rfl, _, rfl, _, _, rfl, rfl, _, rfl, ?_⟩
    refine ite2 (fun c => ⟨_, rfl, kY _ _ (.int r.1) (Same.refl _) (.int _) rfl ?_⟩) fun c => kN _ (Same.refl _) ?_
    · have c' : m < r.1 := of_decide_eq_true c
      rw [take_snoc h3, List.filter_append, List.map_append]
      simp [c']
    · have c' : ¬ m < r.1 := fun q => c (decide_eq_true q)
      rw [take_snoc h3, List.filter_append, List.map_append]
      simp [c']
  · intro H1 e1 hls
    obtain ⟨acc, hA, hdp, _⟩ := hls
    have e2 : acc = ((ws.filter fun r => decide (m < r.1)).map (·.1)).map V.int := by
      have q := hdp
      rw [hlen, List.take_length] at q
      refine dpa_ofInts (K := K) (H := H1) ?_
      rw [List.map_map]
      exact q
    have hl2 : acc.length ≤ 900 := by
      rw [e2, List.length_map, List.length_map]
      exact Nat.le_trans (List.length_filter_le _ _) hz
    refine ⟨p0, D, _, acc, rfl, rfl, e1 _ _ upd_same, hA, ?_, fun q hq => ?_⟩
    · show 1 + acc.length ≤ sizeLine
      exact small_le (by omega)
    · refine k q _ (sm_new (s0.trans e1) hq) ?_
      rw [upd_same, e2]
      rfl
/-! ### check_changes -/
def spCheckChanges (K : PySem.W.Frag) : Sp := fun vs H Q _ => ∃ (v : V) (ws : List (Int × Str)), vs = [v] ∧ Dp K H v (.list (ws.map wrD)) ∧ WOk ws ∧ ∀ H', Same H H' → Q .non H'
theorem scCheckChanges : FnScope ["weather", "minutes", "minute", "_", "later"] ["weather"] (defScope sCheckChanges) := ⟨rfl, rfl, rfl, by decide +kernel, rfl, by decide +kernel, by decide +kernel⟩
theorem ok_check_changes (T : Txt K mg) : Has P w K mg base 1 "check_changes" ["weather"] (spCheckChanges K) := by
  refine has_of T.dCheckChanges T.gCheckChanges scCheckChanges (fun vs H Q E h => by obtain ⟨v, ws, rfl, _⟩ := h; rfl) (fun _ _ _ _ _ _ us hl => match us, hl with | [_], _ => rfl) fun cdv A outer s H vs Q E hr h => ?_
  obtain ⟨v, ws, rfl, hv, ok, k⟩ := h
  obtain ⟨a, xs, rfl, hS, hd⟩ := dp_lst hv
  have hlen : xs.length = ws.length := by rw [dpa_len hd, List.length_map]
  obtain ⟨t1, e1⟩ := T.iMostChanges
  obtain ⟨t2, e2⟩ := T.iMostMinute
  refine ⟨_, pss_cons (ps_setLc (i := 1) (own := [("minute", 2), ("_", 3)]) (g := gTup K 2 (gCons (gName 2) (gCons (gName 3) gNil))) (by rfl) scCheckChanges.nd rfl rfl (sw_true rfl rfl rfl (by decide +kernel)) (pi_list (pv 0)) (blkOk_by (N := ["weather", "minutes", "minute", "_", "later"]) (sc := defScope sCheckChanges) (by decide +kernel))
      (fun _ _ _ _ _ => pg_tup rfl (pgs_cons (pg_name (i := 2) scCheckChanges.nd rfl (Or.inl rfl)) (pgs_cons (pg_name (i := 3) scCheckChanges.nd rfl (Or.inl rfl)) pgs_nil))) (fun _ _ _ _ _ => pts_nil) (fun _ _ _ _ _ => pv 2))
    (pss_cons (ps_if (PW.pt (pw_or (pt_not (pt_chain op_le op_le pe_int (pe_callB call_len_seq (by rfl) T.fLen PySem.boot_len (pa_cons (pv 1) pa_nil)) (pe_glob (v := .int 40) rfl e1 ⟨t1, rfl⟩)))
        (pw_or (pt_cmpR op_ne (pe_ix ix_list (pv 1) pe_int (fun _ _ => rfl)) pe_int (nomark _)) (pw_or1 (pt_cmpR op_gt (pe_ix ix_list (pv 1) (pe_un un_neg pe_int) (fun _ _ => rfl)) (pe_glob (v := .int 100000) rfl e2 ⟨t2, rfl⟩) (nomark _)))))) (pss_one ps_never) pss_nil)
    (pss_one (ps_if (pt_val (pe_callB (cr_any rfl) (by rfl) T.fAny (by decide +kernel) (pa_cons (pe_lc (own := [("minute", 2), ("later", 4)]) (g := gTup K 2 (gCons (gName 2) (gCons (gName 4) gNil))) (by rfl) scCheckChanges.nd
        (pi_zip (by rfl) T.fZip (pa_cons (pv 1) (pa_cons (pe_slice sl_list (pv 1) (po_some pe_int) po_none) pa_nil))) (blkOk_by (N := ["weather", "minutes", "minute", "_", "later"]) (sc := defScope sCheckChanges) (by decide +kernel))
        (fun _ _ _ _ _ => pg_tup rfl (pgs_cons (pg_name (i := 2) scCheckChanges.nd rfl (Or.inl rfl)) (pgs_cons (pg_name (i := 4) scCheckChanges.nd rfl (Or.inl rfl)) pgs_nil))) (fun _ _ _ _ _ => pts_nil) (fun _ _ _ _ _ => pe_cmp (pc_le (pv 4) (pv 2)))) pa_nil))) (pss_one ps_never) pss_nil))), ?_⟩
  refine ⟨_, rfl, a, rfl, ⟨_, hS⟩, fun D hD => lc_data (K := K) walk_list hD (fun i => (ws.take i).map fun r => PyData.int r.1) rfl (fun i hi => ?_) (fun H' e => e.seq hS) ?_ ?_⟩
  · rw [List.length_map, List.length_take]
    exact small1000 (by have := ok.sz; omega)
  · rintro i u H1 H2 N hi s1 ⟨rfl, hu⟩ kY kN
    obtain ⟨d, h1, h2⟩ := dpa_get hd hu
    obtain ⟨r, h3, rfl⟩ := get_map h1
    obtain ⟨b, y, z, rfl, hs, hy, hz⟩ := dp_tup2 (dp_sm s1 _ _ h2)
    obtain rfl := dp_int hy
    refine ⟨b, _, rfl, hs, rfl, _, _, rfl, _, _, rfl, rfl, rfl, _, rfl, kY _ _ (.int r.1) (Same.refl _) (.int _) rfl ?_⟩
    rw [take_snoc h3, List.map_append]
    rfl
  · intro H1 s1 hls
    obtain ⟨acc, hA, hdp, _⟩ := hls
    have ea : acc = (ws.map (·.1)).map V.int := by
      have q := hdp
      rw [hlen, List.take_length] at q
      refine dpa_ofInts (K := K) (H := H1) ?_
      rw [List.map_map]
      exact q
    have el : acc.length = ws.length := by rw [ea, List.length_map, List.length_map]
    have hge : ∀ (i : Nat) r, ws[i]? = some r → acc[i]? = some (.int r.1) := fun i r e => by
      rw [ea, List.getElem?_map, List.getElem?_map, e]
      rfl
    have l1 := ok.ne
    have l2 := ok.sz
    have h0 : ws[0]? = some ws[0] := List.getElem?_eq_getElem (by omega)
    have hn : ws[ws.length - 1]? = some ws[ws.length - 1] := List.getElem?_eq_getElem (by omega)
    have z0 := ok.at0 _ h0
    -- the first test
    refine ⟨_, rfl, D, acc, rfl, .inl (SqL.of hA), 1, _, rfl, rfl, true, ?_, iteT ?_⟩
    · show V.bl (decide ((1 : Int) ≤ (acc.length : Int))) = V.bl true
      rw [decide_eq_true (by omega)]
    refine ⟨_, 40, rfl, rfl, true, ?_, iteF ?_⟩
    · show V.bl (decide ((acc.length : Int) ≤ (40 : Int))) = V.bl true
      rw [decide_eq_true (by omega)]
    refine ⟨_, rfl, D, acc, 0, _, rfl, rfl, SqL.of hA, atI_nat (j := 0) (hge 0 _ h0), rfl, false, ?_, iteF ?_⟩
    · show V.bl (!decide (V.int ws[0].1 = V.int 0)) = V.bl false
      rw [z0]
      rfl
    refine ⟨_, rfl, 1, rfl, D, acc, -1, .int ws[ws.length - 1].1, rfl, rfl, SqL.of hA, atI_neg1 ?_, _, _, rfl, rfl, false, ?_, iteF ?_⟩
    · rw [List.getLast?_eq_getElem?, el]
      exact hge _ _ hn
    · show V.bl (decide ((100000 : Int) < ws[ws.length - 1].1)) = V.bl false
      have q := ok.most _ (List.mem_of_getElem? hn)
      rw [decide_eq_false (by omega)]
    -- the second one
    refine ⟨_, rfl, _, rfl, 1, rfl, D, acc, rfl, SqL.of hA, fun p hp => ?_⟩
    have s2 : Same H1 (upd H1 p (.lst (cutV acc (some 1) none))) := sm_up hp
    have ec : cutV acc (some 1) none = acc.drop 1 := by
      unfold cutV
      rw [HT.sIx_none, show ((1 : Int)) = ((1 : Nat) : Int) from rfl, HT.sIx_nat, show min 1 acc.length = 1 by omega]
      exact List.take_of_length_le (by rw [List.length_drop]; omega)
    refine ⟨D, p, acc, acc.drop 1, rfl, SqL.of (s2 _ _ hA), SqL.of (by rw [← ec]; exact upd_same), fun D2 hD2 => lc_data (K := K) (walk_zip (xs := acc) (ys := acc.drop 1) (n := acc.length - 1) (by rw [List.length_drop]; omega)) hD2 (fun i => (List.replicate i false).map PyData.bool) rfl (fun i hi => ?_)
      (fun H' e => ⟨SqL.of (e _ _ (s2 _ _ hA)), SqL.of (e _ _ (by rw [← ec]; exact upd_same))⟩) ?_ ?_⟩
    · rw [List.length_map, List.length_replicate]
      exact small1000 (by omega)
    · rintro i u H3 H4 N hi s3 ⟨Tp, x, y, rfl, hT, rfl, hx, hy⟩ kY kN
      have q1 : ws[i]? = some ws[i] := List.getElem?_eq_getElem (by omega)
      have q2 : ws[i + 1]? = some ws[i + 1] := List.getElem?_eq_getElem (by omega)
      have qx : acc[i]? = some x := hx
      have qy : acc[i + 1]? = some y := by
        have q : (acc.drop 1)[i]? = some y := hy
        rw [List.getElem?_drop, Nat.add_comm] at q
        exact q
      rw [hge i _ q1] at qx
      rw [hge (i + 1) _ q2] at qy
      cases qx
      cases qy
      refine ⟨Tp, _, rfl, SqT.of upd_same, rfl, _, _, rfl, _, _, rfl, rfl, rfl, _, rfl, _, rfl, _, _, rfl, rfl, ?_⟩
      have c := ok.asc i _ _ q1 q2
      dsimp only
      rw [decide_eq_false (show ¬ ws[i + 1].1 ≤ ws[i].1 by omega)]
      refine kY _ _ (.bool false) (sm_up hT) (.bl false) rfl ?_
      rw [List.replicate_succ', List.map_append]
      rfl
    · intro H3 s3 hls
      obtain ⟨acc2, hA2, hdp2, _⟩ := hls
      refine ⟨D2, List.replicate (acc.length - 1) false, rfl, SqL.of (by rw [← dpa_bools hdp2]; exact hA2), false, by rw [any_rep], iteF ?_⟩
      exact k H3 (s1.trans (s2.trans s3))
end
structure LkOk (winds places : List Str) (l : Lk) : Prop where
  one : l.one ∈ places
  oth : l.oth ∈ places
  ne : l.one ≠ l.oth
  ts : l.ts.length = winds.length
  bd : ∀ lo hi, some (lo, hi) ∈ l.ts → 1 ≤ lo ∧ lo ≤ hi ∧ hi ≤ 1000
structure LandOk (L : LandD) : Prop where
  wn1 : 1 ≤ L.winds.length
  wn : L.winds.length ≤ 4
  wnd : L.winds.Nodup
  pn1 : 1 ≤ L.places.length
  pn : L.places.length ≤ 24
  pnd : L.places.Nodup
  ln : L.links.length ≤ 60
  lk : ∀ l ∈ L.links, LkOk L.winds L.places l
/-- the numbers of a fire -/
def numsOf (f : Int × Int → Int) (links : List Lk) : List (List (Option Int)) := links.map fun l => l.ts.map (Option.map f)
def rowD (r : List (Option Int)) : PyData := .tuple (r.map oiD)
theorem nl_row (r : List (Option Int)) : nl (rowD r) = true := by simp [rowD, nl, nlA_map oiD nl_oi]
def spNumbers (K : PySem.W.Frag) (f : Int × Int → Int) : Sp := fun vs H Q _ => ∃ (p : Addr) (L : LandD), vs = [.ref p] ∧ LandAt K H p L ∧ LandOk L ∧
  ∀ v H', Same H H' → Dp K H' v (.tuple ((numsOf f L.links).map rowD)) → Q v H'
section
variable {P : Program} {w : World} {K : PySem.W.Frag} {mg : Str → Option Value} {base : Heap}
def scLeastNumbersLc : Scope := match defBody sLeastNumbers with
  | [.Return (some (.Call _ [.ListComp _ _ s _] _ _)) _] => s
  | _ => { kind := .function, names := [], isGenerator := false, isCoroutine := false }
theorem scLeastNumbers : FnScope ["land", "link", "pair"] ["land"] (defScope sLeastNumbers) := ⟨rfl, rfl, rfl, by decide +kernel, rfl, by decide +kernel, by decide +kernel⟩
theorem ok_least_numbers (T : Txt K mg) : Has P w K mg base 1 "least_numbers" ["land"] (spNumbers K Prod.fst) := by
  refine has_of T.dLeastNumbers T.gLeastNumbers scLeastNumbers (fun vs H Q E h => by obtain ⟨p, L, rfl, _⟩ := h; rfl) (fun _ _ _ _ _ _ us hl => match us, hl with | [_], _ => rfl) fun cdv A outer s H vs Q E hr h => ?_
  obtain ⟨p, L, rfl, hL, ok, k⟩ := h
  obtain ⟨dx, w', pl, l, pa, hp, hw, hpl, hl, hpa⟩ := id hL
  obtain ⟨la, xs, el, hS, hd⟩ := dp_tup hl
  cases el
  have hlen : xs.length = L.links.length := by rw [dpa_len hd, List.length_map]
  refine ⟨_, pss_one (ps_ret (pe_callTy call_tuple_of (by rfl) T.fTuple (by decide +kernel) (pa_cons (pe_lc (own := [("link", 1)]) (g := gName 1) (by rfl) scLeastNumbers.nd (pi_tup (pe_fld (pv 0) rfl)) (blkOk_by (N := ["land", "link", "pair"]) (sc := defScope sLeastNumbers) (by decide +kernel))
    (fun _ _ _ _ _ => pg_name (i := 1) scLeastNumbers.nd rfl (Or.inl rfl)) (fun _ _ _ _ _ => pts_nil)
    (fun _ _ _ _ _ => pe_callTy (cTup_ K) (by rfl) T.fTuple (by decide +kernel) (pa_cons (pe_lc (own := [("pair", 2)]) (g := gName 2) (by rfl) scLeastNumbers.nd (piT_ K (pe_ix (ixT_ K) (pv 1) pe_int (fun _ _ => rfl))) (blkOk_by (N := ["land", "link", "pair"]) (sc := scLeastNumbersLc) (by decide +kernel))
      (fun _ _ _ _ _ => pg_name (i := 2) scLeastNumbers.nd rfl (Or.inl rfl)) (fun _ _ _ _ _ => pts_nil)
      (fun _ _ _ _ _ => pe_ifExp (pt_cmp (pc_isN (pv 2))) pe_non (pe_ix (ixT_ K) (pv 2) pe_int (fun _ _ => rfl)))) pa_nil))) pa_nil))), ?_⟩
  refine ⟨_, rfl, p, CL K, dx, _, _, rfl, hp, T.cl, T.nLinks, lf_links _ _ _ _, l, rfl, ⟨_, hS⟩, fun D hD => lc_data (K := K) walk_tup hD (fun i => (numsOf Prod.fst (L.links.take i)).map rowD) rfl (fun i hi => ?_) (fun H' e => sm_tup e hS) ?_ ?_⟩
  · unfold numsOf
    rw [List.length_map, List.length_map, List.length_take]
    exact small1000 (by have := ok.ln; omega)
  · rintro i u H1 H2 N hi s1 ⟨rfl, hu⟩ kY kN
    obtain ⟨d, h1, h2⟩ := dpa_get hd hu
    obtain ⟨r, h3, rfl⟩ := get_map h1
    obtain ⟨b, ys, rfl, hs, hys⟩ := dp_tup (dp_sm s1 _ _ h2)
    obtain ⟨y1, y2, y3, y4, rfl, _, _, _, hy4⟩ := dpa_4 hys
    obtain ⟨c, zs, rfl, hzs, hz⟩ := dp_tup hy4
    have zl : zs.length = r.ts.length := by rw [dpa_len hz, List.length_map]
    have rl : r.ts.length ≤ 4 := by
      rw [(ok.lk r (List.mem_of_getElem? h3)).ts]
      exact ok.wn
    refine ⟨rfl, _, rfl, b, _, 3, _, rfl, rfl, hs, rfl, c, rfl, ⟨_, hzs⟩, fun D2 hD2 => lc_data (K := K) walk_tup hD2 (fun j => (r.ts.take j).map fun q => oiD (q.map Prod.fst)) rfl (fun j hj => ?_) (fun H' e => sm_tup e hzs) ?_ ?_⟩
    · rw [List.length_map, List.length_take]
      exact small1000 (by omega)
    · rintro j v H3 H4 N2 hj s2 ⟨rfl, hv⟩ kY2 kN2
      obtain ⟨d, g1, g2⟩ := dpa_get hz hv
      obtain ⟨q, g3, rfl⟩ := get_map g1
      have g4 := dp_sm s2 _ _ g2
      cases q with
      | none =>
        obtain rfl := dp_non g4
        refine ⟨rfl, _, rfl, true, rfl, ?_⟩
        refine kY2 _ _ .none (Same.refl _) .non rfl ?_
        rw [take_snoc g3, List.map_append]
        rfl
      | some q =>
        obtain ⟨lo, hi'⟩ := q
        obtain ⟨e, x1, x2, rfl, hs3, hx1, hx2⟩ := dp_tup2 g4
        obtain rfl := dp_int hx1
        obtain rfl := dp_int hx2
        refine ⟨rfl, _, rfl, false, rfl, _, rfl, e, _, 0, _, rfl, rfl, hs3, rfl, ?_⟩
        refine kY2 _ _ (.int _) (Same.refl _) (.int _) rfl ?_
        rw [take_snoc g3, List.map_append]
        rfl
    · intro H3 s3 hls
      obtain ⟨acc, hA, hdp, hnl⟩ := hls
      refine ⟨D2, acc, rfl, .inl ⟨SqL.of hA, fun q hq => ?_⟩⟩
      have s4 : Same H3 (upd H3 q (.tup acc)) := sm_up hq
      rw [zl, List.take_length] at hdp
      refine kY _ _ (rowD (r.ts.map (Option.map Prod.fst))) (s3.trans s4) (.tup (SqT.of upd_same) ?_) (nl_row _) ?_
      · rw [List.map_map]
        exact dpa_sm s4 _ _ hdp
      · unfold numsOf
        rw [take_snoc h3, List.map_append, List.map_append]
        rfl
  · intro H1 s1 hls
    obtain ⟨acc, hA, hdp, hnl⟩ := hls
    refine ⟨D, acc, rfl, .inl ⟨SqL.of hA, fun q hq => ?_⟩⟩
    have s2 : Same H1 (upd H1 q (.tup acc)) := sm_up hq
    rw [hlen, List.take_length] at hdp
    exact k _ _ (s1.trans s2) (.tup (SqT.of upd_same) (dpa_sm s2 _ _ hdp))
def scMostNumbersLc : Scope := match defBody sMostNumbers with
  | [.Return (some (.Call _ [.ListComp _ _ s _] _ _)) _] => s
  | _ => { kind := .function, names := [], isGenerator := false, isCoroutine := false }
theorem scMostNumbers : FnScope ["land", "link", "pair"] ["land"] (defScope sMostNumbers) := ⟨rfl, rfl, rfl, by decide +kernel, rfl, by decide +kernel, by decide +kernel⟩
theorem ok_most_numbers (T : Txt K mg) : Has P w K mg base 1 "most_numbers" ["land"] (spNumbers K Prod.snd) := by
  refine has_of T.dMostNumbers T.gMostNumbers scMostNumbers (fun vs H Q E h => by obtain ⟨p, L, rfl, _⟩ := h; rfl) (fun _ _ _ _ _ _ us hl => match us, hl with | [_], _ => rfl) fun cdv A outer s H vs Q E hr h => ?_
  obtain ⟨p, L, rfl, hL, ok, k⟩ := h
  obtain ⟨dx, w', pl, l, pa, hp, hw, hpl, hl, hpa⟩ := id hL
  obtain ⟨la, xs, el, hS, hd⟩ := dp_tup hl
  cases el
  have hlen : xs.length = L.links.length := by rw [dpa_len hd, List.length_map]
  refine ⟨_, pss_one (ps_ret (pe_callTy call_tuple_of (by rfl) T.fTuple (by decide +kernel) (pa_cons (pe_lc (own := [("link", 1)]) (g := gName 1) (by rfl) scMostNumbers.nd (pi_tup (pe_fld (pv 0) rfl)) (blkOk_by (N := ["land", "link", "pair"]) (sc := defScope sMostNumbers) (by decide +kernel))
    (fun _ _ _ _ _ => pg_name (i := 1) scMostNumbers.nd rfl (Or.inl rfl)) (fun _ _ _ _ _ => pts_nil)
    (fun _ _ _ _ _ => pe_callTy (cTup_ K) (by rfl) T.fTuple (by decide +kernel) (pa_cons (pe_lc (own := [("pair", 2)]) (g := gName 2) (by rfl) scMostNumbers.nd (piT_ K (pe_ix (ixT_ K) (pv 1) pe_int (fun _ _ => rfl))) (blkOk_by (N := ["land", "link", "pair"]) (sc := scMostNumbersLc) (by decide +kernel))
      (fun _ _ _ _ _ => pg_name (i := 2) scMostNumbers.nd rfl (Or.inl rfl)) (fun _ _ _ _ _ => pts_nil)
      (fun _ _ _ _ _ => pe_ifExp (pt_cmp (pc_isN (pv 2))) pe_non (pe_ix (ixT_ K) (pv 2) pe_int (fun _ _ => rfl)))) pa_nil))) pa_nil))), ?_⟩
  refine ⟨_, rfl, p, CL K, dx, _, _, rfl, hp, T.cl, T.nLinks, lf_links _ _ _ _, l, rfl, ⟨_, hS⟩, fun D hD => lc_data (K := K) walk_tup hD (fun i => (numsOf Prod.snd (L.links.take i)).map rowD) rfl (fun i hi => ?_) (fun H' e => sm_tup e hS) ?_ ?_⟩
  · unfold numsOf
    rw [List.length_map, List.length_map, List.length_take]
    exact small1000 (by have := ok.ln; omega)
  · rintro i u H1 H2 N hi s1 ⟨rfl, hu⟩ kY kN
    obtain ⟨d, h1, h2⟩ := dpa_get hd hu
    obtain ⟨r, h3, rfl⟩ := get_map h1
    obtain ⟨b, ys, rfl, hs, hys⟩ := dp_tup (dp_sm s1 _ _ h2)
    obtain ⟨y1, y2, y3, y4, rfl, _, _, _, hy4⟩ := dpa_4 hys
    obtain ⟨c, zs, rfl, hzs, hz⟩ := dp_tup hy4
    have zl : zs.length = r.ts.length := by rw [dpa_len hz, List.length_map]
    have rl : r.ts.length ≤ 4 := by
      rw [(ok.lk r (List.mem_of_getElem? h3)).ts]
      exact ok.wn
    refine ⟨rfl, _, rfl, b, _, 3, _, rfl, rfl, hs, rfl, c, rfl, ⟨_, hzs⟩, fun D2 hD2 => lc_data (K := K) walk_tup hD2 (fun j => (r.ts.take j).map fun q => oiD (q.map Prod.snd)) rfl (fun j hj => ?_) (fun H' e => sm_tup e hzs) ?_ ?_⟩
    · rw [List.length_map, List.length_take]
      exact small1000 (by omega)
    · rintro j v H3 H4 N2 hj s2 ⟨rfl, hv⟩ kY2 kN2
      obtain ⟨d, g1, g2⟩ := dpa_get hz hv
      obtain ⟨q, g3, rfl⟩ := get_map g1
      have g4 := dp_sm s2 _ _ g2
      cases q with
      | none =>
        obtain rfl := dp_non g4
        refine ⟨rfl, _, rfl, true, rfl, ?_⟩
        refine kY2 _ _ .none (Same.refl _) .non rfl ?_
        rw [take_snoc g3, List.map_append]
        rfl
      | some q =>
        obtain ⟨lo, hi'⟩ := q
        obtain ⟨e, x1, x2, rfl, hs3, hx1, hx2⟩ := dp_tup2 g4
        obtain rfl := dp_int hx1
        obtain rfl := dp_int hx2
        refine ⟨rfl, _, rfl, false, rfl, _, rfl, e, _, 1, _, rfl, rfl, hs3, rfl, ?_⟩
        refine kY2 _ _ (.int _) (Same.refl _) (.int _) rfl ?_
        rw [take_snoc g3, List.map_append]
        rfl
    · intro H3 s3 hls
      obtain ⟨acc, hA, hdp, hnl⟩ := hls
      refine ⟨D2, acc, rfl, .inl ⟨SqL.of hA, fun q hq => ?_⟩⟩
      have s4 : Same H3 (upd H3 q (.tup acc)) := sm_up hq
      rw [zl, List.take_length] at hdp
      refine kY _ _ (rowD (r.ts.map (Option.map Prod.snd))) (s3.trans s4) (.tup (SqT.of upd_same) ?_) (nl_row _) ?_
      · rw [List.map_map]
        exact dpa_sm s4 _ _ hdp
      · unfold numsOf
        rw [take_snoc h3, List.map_append, List.map_append]
        rfl
  · intro H1 s1 hls
    obtain ⟨acc, hA, hdp, hnl⟩ := hls
    refine ⟨D, acc, rfl, .inl ⟨SqL.of hA, fun q hq => ?_⟩⟩
    have s2 : Same H1 (upd H1 q (.tup acc)) := sm_up hq
    rw [hlen, List.take_length] at hdp
    exact k _ _ (s1.trans s2) (.tup (SqT.of upd_same) (dpa_sm s2 _ _ hdp))
end
structure RowsOk (rows : List (List (Option Int))) (links : List Lk) : Prop where
  len : rows.length = links.length
  row : ∀ (i : Nat) (row : List (Option Int)) (l : Lk), rows[i]? = some row → links[i]? = some l → row.length = l.ts.length
  num : ∀ (i : Nat) (row : List (Option Int)) (l : Lk), rows[i]? = some row → links[i]? = some l → ∀ (j : Nat) o q, row[j]? = some o → l.ts[j]? = some q → NumOk o q
theorem all_rep : ∀ n : Nat, (List.replicate n true).all id = true
  | 0 => rfl
  | n + 1 => by
    rw [List.replicate_succ, List.all_cons, all_rep n]
    rfl
/-- a pair of the tuples' items at each turn -/
theorem walk_zipU {K : PySem.W.Frag} {a b : Addr} {xs ys : List V} {n : Nat} (h1 : n ≤ xs.length) (h2 : n ≤ ys.length) (h3 : xs.length ≤ n ∨ ys.length ≤ n) : Walk (ItzT K a b) n (fun H => SqT K H a xs ∧ SqT K H b ys) (YPair (fun i => xs[i]?) (fun i => ys[i]?)) where
  goes := fun i H hi q => ⟨xs, ys, xs[i], ys[i], q.1, q.2, List.getElem?_eq_getElem _, List.getElem?_eq_getElem _⟩
  stops := fun H q => ⟨xs, ys, q.1, q.2, h3⟩
  yields := fun i H v H' hi q ⟨t, x, z, e1, e2, e3, f, g⟩ => ⟨t, x, z, e1, e2, e3, f _ q.1, g _ q.2⟩
section
variable {P : Program} {w : World} {K : PySem.W.Frag} {mg : Str → Option Value} {base : Heap}
def spCheckNumbers (K : PySem.W.Frag) : Sp := fun vs H Q _ => ∃ (p : Addr) (L : LandD) (v : V) (rows : List (List (Option Int))), vs = [.ref p, v] ∧ LandAt K H p L ∧ LandOk L ∧ Dp K H v (.tuple (rows.map rowD)) ∧ RowsOk rows L.links ∧ ∀ H', Same H H' → Q .non H'
theorem scCheckNumbers : FnScope ["land", "numbers", "row", "link", "number", "pair"] ["land", "numbers"] (defScope sCheckNumbers) := ⟨rfl, rfl, rfl, by decide +kernel, rfl, by decide +kernel, by decide +kernel⟩
theorem ok_check_numbers (T : Txt K mg) : Has P w K mg base 2 "check_numbers" ["land", "numbers"] (spCheckNumbers K) := by
  have G : Has P w K mg base 1 "is_number" ["number", "pair"] (spIsNumber K) := ok_is_number T
  refine has_of T.dCheckNumbers T.gCheckNumbers scCheckNumbers (fun vs H Q E h => by obtain ⟨p, L, v, rows, rfl, _⟩ := h; rfl) (fun _ _ _ _ _ _ us hl => match us, hl with | [_, _], _ => rfl) fun cdv A outer s H vs Q E hr h => ?_
  obtain ⟨p, L, v, rows, rfl, hL, ok, hv, ro, k⟩ := h
  obtain ⟨dx, w', pl, l, pa, hp, hw, hpl, hl, hpa⟩ := id hL
  obtain ⟨la, xs, el, hS, hd⟩ := dp_tup hl
  cases el
  obtain ⟨a, ys, rfl, hR, hr2⟩ := dp_tup hv
  have xlen : xs.length = L.links.length := by rw [dpa_len hd, List.length_map]
  have ylen : ys.length = rows.length := by rw [dpa_len hr2, List.length_map]
  have rl := ro.len
  refine ⟨_, pss_cons (ps_if (pt_cmpR op_ne (pe_callB call_len_seq (by rfl) T.fLen PySem.boot_len (pa_cons (pv 1) pa_nil)) (pe_callB call_len_seq (by rfl) T.fLen PySem.boot_len (pa_cons (pe_fld (pv 0) rfl) pa_nil)) (nomark _)) (pss_one ps_never) pss_nil)
    (pss_one (ps_for PassesOwn.never rfl (pi_zipA (by rfl) T.fZip (pa_cons (pv 1) (pa_cons (pe_fld (pv 0) rfl) pa_nil))) (pg_tup rfl (pgs_cons (pg_name (i := 2) scCheckNumbers.nd rfl (.inl rfl)) (pgs_cons (pg_name (i := 3) scCheckNumbers.nd rfl (.inl rfl)) pgs_nil)))
      (pss_one (ps_if (PW.pt (pw_or (pt_cmpR op_ne (pe_callB call_len_seq (by rfl) T.fLen PySem.boot_len (pa_cons (pv 2) pa_nil)) (pe_callB call_len_seq (by rfl) T.fLen PySem.boot_len (pa_cons (pe_ix ix_tup (pv 3) pe_int (fun _ _ => rfl)) pa_nil)) (nomark _))
        (pw_or1 (pt_not (pt_val (pe_callB (cr_all rfl) (by rfl) T.fAll (by decide +kernel) (pa_cons (pe_lc (own := [("number", 4), ("pair", 5)]) (g := gTup K 2 (gCons (gName 4) (gCons (gName 5) gNil))) (by rfl) scCheckNumbers.nd
          (pi_zipA (by rfl) T.fZip (pa_cons (pv 2) (pa_cons (pe_ix ix_tup (pv 3) pe_int (fun _ _ => rfl)) pa_nil))) (blkOk_by (N := ["land", "numbers", "row", "link", "number", "pair"]) (sc := defScope sCheckNumbers) (by decide +kernel))
          (fun _ _ _ _ _ => pg_tup rfl (pgs_cons (pg_name (i := 4) scCheckNumbers.nd rfl (Or.inl rfl)) (pgs_cons (pg_name (i := 5) scCheckNumbers.nd rfl (Or.inl rfl)) pgs_nil))) (fun _ _ _ _ _ => pts_nil)
          (fun _ _ _ _ _ => pe_f G hr (by rfl) (pa_cons (pv 4) (pa_cons (pv 5) pa_nil)))) pa_nil))))))) (pss_one ps_never) pss_nil)))), ?_⟩
  refine ⟨_, rfl, a, ys, rfl, .inr hR, _, rfl, p, CL K, dx, _, _, rfl, hp, T.cl, T.nLinks, lf_links _ _ _ _, l, xs, rfl, .inr hS, rfl, false, ?_, iteF ?_⟩
  · show V.bl (!decide (V.int (ys.length : Int) = V.int (xs.length : Int))) = V.bl false
    rw [decide_eq_true (by rw [ylen, xlen, rl])]
    rfl
  refine ⟨_, rfl, _, rfl, p, CL K, dx, _, _, rfl, hp, T.cl, T.nLinks, lf_links _ _ _ _, a, l, ys, xs, rfl, .inr ⟨hR, hS, for_it (walk_zipU (n := ys.length) (Nat.le_refl _) (by omega) (.inl (Nat.le_refl _)))
    (fun i σ H' => Same H H' ∧ ∃ u1 u2, σ = [some (.ref p), some (.ref a), u1, u2, none, none]) ⟨Same.refl H, none, none, rfl⟩ (fun i σ H' _ q => ⟨sm_tup q.1 hR, sm_tup q.1 hS⟩) ?_ ?_⟩⟩
  · rintro i x σ H1 H2 hi ⟨s1, u1, u2, rfl⟩ ⟨Tp, x1, x2, rfl, hT, rfl, hx1, hx2⟩
    have s2 : Same H1 (upd H1 Tp (.tup [x1, x2])) := sm_up hT
    have s3 := s1.trans s2
    obtain ⟨d1, g1, g2⟩ := dpa_get hr2 hx1
    obtain ⟨row, g3, rfl⟩ := get_map g1
    obtain ⟨d2, g4, g5⟩ := dpa_get hd hx2
    obtain ⟨lk, g6, rfl⟩ := get_map g4
    obtain ⟨b, rs, rfl, hrs, hrow⟩ := dp_tup (dp_sm s3 _ _ g2)
    obtain ⟨c, zs, rfl, hzs, hys⟩ := dp_tup (dp_sm s3 _ _ g5)
    obtain ⟨y1, y2, y3, y4, rfl, _, _, _, hy4⟩ := dpa_4 hys
    obtain ⟨e, ts, rfl, hts, hpr⟩ := dp_tup hy4
    have l1 : rs.length = row.length := by rw [dpa_len hrow, List.length_map]
    have l2 : ts.length = lk.ts.length := by rw [dpa_len hpr, List.length_map]
    have l3 := ro.row _ _ _ g3 g6
    refine ⟨Tp, _, rfl, SqT.of upd_same, rfl, _, _, rfl, _, _, rfl, rfl, ?_⟩
    refine ⟨_, rfl, b, rs, rfl, .inr hrs, _, rfl, c, _, 3, _, rfl, rfl, hzs, rfl, e, ts, rfl, .inr hts, rfl, false, ?_, iteF ?_⟩
    · show V.bl (!decide (V.int (rs.length : Int) = V.int (ts.length : Int))) = V.bl false
      rw [decide_eq_true (by rw [l1, l2, l3])]
      rfl
    refine ⟨_, rfl, _, rfl, c, _, 3, _, rfl, rfl, hzs, rfl, b, e, rs, ts, rfl, .inr ⟨hrs, hts, fun D hD => lc_data (K := K) (walk_zipU (xs := rs) (ys := ts) (n := rs.length) (Nat.le_refl _) (by omega) (.inl (Nat.le_refl _))) hD (fun j => (List.replicate j true).map PyData.bool) rfl (fun j hj => ?_)
      (fun H' e => ⟨sm_tup e hrs, sm_tup e hts⟩) ?_ ?_⟩⟩
    · rw [List.length_map, List.length_replicate]
      have q := (ok.lk lk (List.mem_of_getElem? g6)).ts
      have q2 := ok.wn
      exact small1000 (by omega)
    · rintro j z H3 H4 N hj s4 ⟨Tq, z1, z2, rfl, hTq, rfl, hz1, hz2⟩ kY kN
      have s5 : Same H3 (upd H3 Tq (.tup [z1, z2])) := sm_up hTq
      obtain ⟨d3, m1, m2⟩ := dpa_get hrow hz1
      obtain ⟨o, m3, rfl⟩ := get_map m1
      obtain ⟨d4, m4, m5⟩ := dpa_get hpr hz2
      obtain ⟨q, m6, rfl⟩ := get_map m4
      have m7 : z1 = oiV o := by
        cases o with
        | none => exact dp_non m2
        | some n => exact dp_int m2
      subst m7
      refine ⟨Tq, _, rfl, SqT.of upd_same, rfl, _, _, rfl, _, _, rfl, rfl, rfl, ?_⟩
      refine ⟨_, rfl, _, rfl, o, q, z2, rfl, dp_sm (s4.trans s5) _ _ m5, ro.num _ _ _ g3 g6 _ _ _ m3 m6, ?_⟩
      refine kY _ _ (.bool true) s5 (.bl true) rfl ?_
      rw [List.replicate_succ', List.map_append]
      rfl
    · intro H3 s4 hls
      obtain ⟨acc, hA, hdp, _⟩ := hls
      refine ⟨D, List.replicate rs.length true, rfl, SqL.of (by rw [← dpa_bools hdp]; exact hA), true, by rw [all_rep], iteF ?_⟩
      exact ⟨s3.trans s4, _, _, rfl⟩
  · rintro σ H' ⟨s1, _⟩
    exact k H' s1
end
/-! ### min of ints with default=None -/
def rMinDf (K : PySem.W.Frag) : List V → List V → Hp → VK → Prop := fun vs zs H Q => ∃ (a : Addr) (ns : List Int), vs = [V.ref a] ∧ zs = [V.non] ∧ SqL K H a (ns.map V.int) ∧ (ns = [] → Q .non H) ∧ ∀ m, m ∈ ns → (∀ y, y ∈ ns → m ≤ y) → Q (.int m) H
theorem minOf_int : ∀ (xs : List Int) (x : Int), PySem.W.minOf x xs ∈ x :: xs ∧ ∀ y, y ∈ x :: xs → PySem.W.minOf x xs ≤ y
  | [], x => ⟨List.mem_cons_self, fun y h => by
    cases h with
    | head => exact Int.le_refl _
    | tail _ h => cases h⟩
  | z :: zs, x => by
    have e : PySem.W.minOf x (z :: zs) = PySem.W.minOf (if z < x then z else x) zs := by
      show PySem.W.minOf (if PySem.W.DatumOrd.lt z x = true then z else x) zs = _
      have q : (PySem.W.DatumOrd.lt z x = true) = (z < x) := by
        show (decide (z < x) = true) = (z < x)
        simp
      simp only [q]
    obtain ⟨h1, h2⟩ := minOf_int zs (if z < x then z else x)
    rw [e]
    refine ⟨?_, fun y hy => ?_⟩
    · rcases List.mem_cons.mp h1 with h | h
      · rw [h]
        split
        · exact List.mem_cons_of_mem _ List.mem_cons_self
        · exact List.mem_cons_self
      · exact List.mem_cons_of_mem _ (List.mem_cons_of_mem _ h)
    · have h0 := h2 _ List.mem_cons_self
      rcases List.mem_cons.mp hy with h | h
      · subst h
        refine Int.le_trans h0 ?_
        split <;> omega
      · rcases List.mem_cons.mp h with h | h
        · subst h
          refine Int.le_trans h0 ?_
          split <;> omega
        · exact h2 y (List.mem_cons_of_mem _ h)
theorem pr_lt (a b : Int × Str) : (PySem.W.DatumOrd.lt a b = true) → a.1 ≤ b.1 := fun h => by
  have h' : (if a.1 = b.1 then PySem.W.DatumOrd.lt a.2 b.2 else PySem.W.DatumOrd.lt a.1 b.1) = true := h
  split at h'
  · omega
  · have : decide (a.1 < b.1) = true := h'
    have := of_decide_eq_true this
    omega
theorem pr_nlt (a b : Int × Str) : ¬ (PySem.W.DatumOrd.lt a b = true) → b.1 ≤ a.1 := fun h => by
  have h' : ¬ (if a.1 = b.1 then PySem.W.DatumOrd.lt a.2 b.2 else PySem.W.DatumOrd.lt a.1 b.1) = true := h
  split at h'
  · omega
  · have q : ¬ decide (a.1 < b.1) = true := h'
    simp at q
    exact q
/-- the least pair of a list: one of them, of a least number -/
theorem minOf_pr : ∀ (xs : List (Int × Str)) (x : Int × Str), PySem.W.minOf x xs ∈ x :: xs ∧ ∀ y, y ∈ x :: xs → (PySem.W.minOf x xs).1 ≤ y.1
  | [], x => ⟨List.mem_cons_self, fun y h => by
    cases h with
    | head => exact Int.le_refl _
    | tail _ h => cases h⟩
  | z :: zs, x => by
    have e : PySem.W.minOf x (z :: zs) = PySem.W.minOf (if PySem.W.DatumOrd.lt z x = true then z else x) zs := rfl
    obtain ⟨h1, h2⟩ := minOf_pr zs (if PySem.W.DatumOrd.lt z x = true then z else x)
    rw [e]
    refine ⟨?_, fun y hy => ?_⟩
    · rcases List.mem_cons.mp h1 with h | h
      · rw [h]
        split
        · exact List.mem_cons_of_mem _ List.mem_cons_self
        · exact List.mem_cons_self
      · exact List.mem_cons_of_mem _ (List.mem_cons_of_mem _ h)
    · have h0 := h2 _ List.mem_cons_self
      rcases List.mem_cons.mp hy with h | h
      · subst h
        refine Int.le_trans h0 ?_
        split
        · next c => exact pr_lt _ _ c
        · exact Int.le_refl _
      · rcases List.mem_cons.mp h with h | h
        · subst h
          refine Int.le_trans h0 ?_
          split
          · exact Int.le_refl _
          · next c => exact pr_nlt _ _ c
        · exact h2 y (List.mem_cons_of_mem _ h)
theorem depth_ints : ∀ ns : List Int, PyData.depthAll (ns.map PyData.int) = 0
  | [] => by simp [PyData.depthAll]
  | n :: ns => by simp [PyData.depthAll, PyData.depth, depth_ints ns]
theorem depth_wr : ∀ ws : List (Int × Str), PyData.depthAll (ws.map wrD) ≤ 1
  | [] => by simp [PyData.depthAll]
  | n :: ns => by
    have ih := depth_wr ns
    simp only [List.map_cons, PyData.depthAll, wrD, PyData.depth]
    omega
section
variable {X : Cx}
theorem cr_minDf (hc : X.calm = true) (hu : X.A.units + 64 < cLine) : CallRK X (.builtin "min") [Str.ofString "default"] (rMinDf X.K) := by
  intro pins s σ H xs zs us ws Q I r rz h
  obtain ⟨a, ns, rfl, rfl, hs, q0, q⟩ := h
  obtain ⟨its, rv, hl, _⟩ := I.list hs
  obtain ⟨as, hr⟩ := Dp.readsAll I (ns.map PyData.int) _ its (dpa_ints ns) rv
  have ew : ws = [Value.none] := by
    cases rz with
    | cons a t =>
      cases t
      cases a
      rfl
  subst ew
  rw [Vals.ref1 r]
  have hr' : ReadsAll s.heap its.toArray.toList (ns.map PyData.int) as := hr
  refine PySem.W.min_list_default (I.ok.hd hc) hl.isList hr' (PySem.W.alikeAll_datum ns) (by rw [depth_ints]; omega) (fun e h' tk hk => ?_) fun y ys i v h' tk bs e hv hm hk => ?_
  · have e' : ns = [] := List.map_eq_nil_iff.mp e
    exact ⟨.non, H, I.kept hk, rfl, q0 e'⟩
  · cases ns with
    | nil => cases e
    | cons n ns =>
      injection e with e1 e2
      subst e1 e2
      rw [show PySem.W.minD (PyData.int n) (ns.map PyData.int) = PyData.int (PySem.W.minOf n ns) from PySem.W.minD_map n ns] at hm
      obtain ⟨m1, m2⟩ := minOf_int ns n
      cases hm with
      | int _ t => exact ⟨.int _, H, I.kept hk, ⟨t, rfl⟩, q _ m1 m2⟩
/-- min of pairs (number, text): one of a least number -/
def rMinPr (K : PySem.W.Frag) : List V → Hp → VK → Prop := fun vs H Q => ∃ (a : Addr) (xs : List V) (ws : List (Int × Str)), vs = [V.ref a] ∧ SqL K H a xs ∧ DpAll K H xs (ws.map wrD) ∧ ws ≠ [] ∧
  ∀ (x : V) (r : Int × Str), r ∈ ws → (∀ y, y ∈ ws → r.1 ≤ y.1) → Dp K H x (wrD r) → Q x H
theorem cr_minPr (hc : X.calm = true) (hu : X.A.units + 64 < cLine) : CallR X (.builtin "min") (rMinPr X.K) := by
  intro pins s σ H vs us Q I r h
  obtain ⟨a, xs, ws, rfl, hs, hd, hne, q⟩ := h
  obtain ⟨its, rv, hl, _⟩ := I.list hs
  obtain ⟨as, hr⟩ := Dp.readsAll I (ws.map wrD) _ its hd rv
  rw [Vals.ref1 r]
  cases ws with
  | nil => exact absurd rfl hne
  | cons w0 ws =>
    have hr' : ReadsAll s.heap its.toArray.toList (wrD w0 :: ws.map wrD) as := hr
    have hdep := depth_wr (w0 :: ws)
    refine PySem.W.min_list_data (I.ok.hd hc) hl.isList hr' (PySem.W.alikeAll_datum (w0 :: ws)) (by show _ + 1 + PyData.depthAll ((w0 :: ws).map wrD) < cLine; omega) fun i v h' tk bs hv hm hk => ?_
    rw [show PySem.W.minD (wrD w0) (ws.map wrD) = wrD (PySem.W.minOf w0 ws) from PySem.W.minD_map w0 ws] at hm
    obtain ⟨m1, m2⟩ := minOf_pr ws w0
    have hv' : its[i]? = some v := by simpa using hv
    -- the item at i
    obtain ⟨x, hx⟩ : ∃ x, xs[i]? = some x := by
      have hlt : i < its.length := (List.getElem?_eq_some_iff.mp hv').1
      exact ⟨xs[i]'(by rw [rv.length]; exact hlt), List.getElem?_eq_getElem _⟩
    obtain ⟨u, hu1, hu2⟩ := rv.get hx
    rw [hv'] at hu1
    cases hu1
    obtain ⟨d, hd1, hd2⟩ := dpa_get hd hx
    obtain ⟨r0, hr0, rfl⟩ := get_map hd1
    obtain ⟨as2, hr2⟩ := Dp.reads I _ _ _ hd2 hu2
    have e1 := SeqAt.readOf_plain (PySem.W.Datum.plain (PySem.W.minOf w0 ws)) hm
    have e2 := SeqAt.readOf_plain (PySem.W.Datum.plain r0) (PySem.W.reads_keeps hk hr2)
    have e3 : wrD r0 = wrD (PySem.W.minOf w0 ws) := e2.symm.trans e1
    exact ⟨x, H, I.kept hk, hu2, q x _ m1 m2 (by rw [← e3]; exact hd2)⟩
end
/-! ### dicts of places and minutes -/
def kD (fs : List (Str × Int)) : List (Key × V) := fs.map fun r => (Sum.inr r.1, V.int r.2)
def lookS (fs : List (Str × Int)) (z : Str) : Option Int := (fs.find? fun r => decide (r.1 = z)).map (·.2)
def putS (fs : List (Str × Int)) (z : Str) (m : Int) : List (Str × Int) := if (fs.any fun r => decide (r.1 = z)) = true then fs.map (fun r => if r.1 = z then (r.1, m) else r) else fs ++ [(z, m)]
def dropS (fs : List (Str × Int)) (z : Str) : List (Str × Int) := fs.filter fun r => decide (r.1 ≠ z)
theorem key_eq {a b : Str} : ((Sum.inr a : Key) = Sum.inr b) = (a = b) := by
  apply propext
  exact ⟨fun h => Sum.inr.inj h, fun h => by rw [h]⟩
theorem lookS_pos {z : Str} {m : Int} {fs : List (Str × Int)} : lookS ((z, m) :: fs) z = some m := by simp [lookS]
theorem lookS_neg {r : Str × Int} {z : Str} {fs : List (Str × Int)} (h : ¬ r.1 = z) : lookS (r :: fs) z = lookS fs z := by simp [lookS, List.find?_cons, h]
theorem val_kD (z : Str) : ∀ fs : List (Str × Int), valV (kD fs) (Sum.inr z : Key) = (lookS fs z).map V.int
  | [] => rfl
  | r :: fs => by
    by_cases h : r.1 = z
    · obtain ⟨a, m⟩ := r
      have h' : a = z := h
      subst h'
      rw [lookS_pos]
      exact valV_pos rfl
    · rw [lookS_neg h]
      refine Eq.trans (valV_neg (fun e => h (Sum.inr.inj e))) (val_kD z fs)
theorem put_kD (fs : List (Str × Int)) (z : Str) (m : Int) : putK (kD fs) (Sum.inr z : Key) (V.int m) = kD (putS fs z m) := by
  unfold putK putS
  have e1 : ((kD fs).any fun kv => decide (kv.1 = (Sum.inr z : Key))) = (fs.any fun r => decide (r.1 = z)) := by
    unfold kD
    rw [List.any_map]
    congr 1
    funext r
    show decide ((Sum.inr r.1 : Key) = Sum.inr z) = decide (r.1 = z)
    simp [key_eq]
  rw [e1]
  by_cases h : (fs.any fun r => decide (r.1 = z)) = true
  · rw [if_pos h, if_pos h]
    unfold kD
    rw [List.map_map, List.map_map]
    congr 1
    funext r
    show (if (Sum.inr r.1 : Key) = Sum.inr z then ((Sum.inr r.1 : Key), V.int m) else (Sum.inr r.1, V.int r.2)) = (fun r : Str × Int => ((Sum.inr r.1 : Key), V.int r.2)) (if r.1 = z then (r.1, m) else r)
    by_cases q : r.1 = z
    · rw [if_pos (by rw [q]), if_pos q]
    · rw [if_neg (fun e => q (Sum.inr.inj e)), if_neg q]
  · rw [if_neg h, if_neg h]
    unfold kD
    rw [List.map_append]
    rfl
theorem drop_kD (z : Str) (fs : List (Str × Int)) : dropK (kD fs) (Sum.inr z : Key) = kD (dropS fs z) := by
  unfold dropK dropS kD
  rw [List.filter_map]
  congr 1
  congr 1
  funext r
  show decide ((Sum.inr r.1 : Key) ≠ Sum.inr z) = decide (r.1 ≠ z)
  simp [key_eq]
theorem lookS_none : ∀ {fs : List (Str × Int)} {z : Str}, z ∉ fs.map (·.1) → lookS fs z = none
  | [], _, _ => rfl
  | r :: fs, z, h => by
    have h1 : ¬ r.1 = z := fun e => h (by rw [List.map_cons, e]; exact List.mem_cons_self)
    rw [lookS_neg h1]
    exact lookS_none fun m => h (List.mem_cons_of_mem _ m)
theorem lookS_mem : ∀ {fs : List (Str × Int)} {z : Str} {m : Int}, lookS fs z = some m → (z, m) ∈ fs
  | [], _, _, h => by cases h
  | r :: fs, z, m, h => by
    by_cases e : r.1 = z
    · obtain ⟨a, n⟩ := r
      have e' : a = z := e
      subst e'
      rw [lookS_pos] at h
      cases h
      exact List.mem_cons_self
    · rw [lookS_neg e] at h
      exact List.mem_cons_of_mem _ (lookS_mem h)
theorem mem_lookS : ∀ {fs : List (Str × Int)} {z : Str} {m : Int}, (fs.map (·.1)).Nodup → (z, m) ∈ fs → lookS fs z = some m
  | [], _, _, _, h => by cases h
  | r :: fs, z, m, hn, h => by
    have hn' : r.1 ∉ fs.map (·.1) ∧ (fs.map (·.1)).Nodup := List.nodup_cons.mp hn
    rcases List.mem_cons.mp h with e | h
    · subst e
      exact lookS_pos
    · have hz : z ∈ fs.map (·.1) := List.mem_map.mpr ⟨_, h, rfl⟩
      rw [lookS_neg (fun e => hn'.1 (by rw [e]; exact hz))]
      exact mem_lookS hn'.2 h
theorem lookS_key {fs : List (Str × Int)} {z : Str} : (lookS fs z).isSome = true ↔ z ∈ fs.map (·.1) := by
  constructor
  · intro h
    obtain ⟨m, e⟩ := Option.isSome_iff_exists.mp h
    exact List.mem_map.mpr ⟨_, lookS_mem e, rfl⟩
  · intro h
    cases e : lookS fs z with
    | some _ => rfl
    | none =>
      exfalso
      induction fs with
      | nil => cases h
      | cons r fs ih =>
        by_cases q : r.1 = z
        · obtain ⟨a, m⟩ := r
          have q' : a = z := q
          subst q'
          rw [lookS_pos] at e
          cases e
        · rw [lookS_neg q] at e
          rcases List.mem_cons.mp h with h | h
          · exact q h.symm
          · exact ih h e
theorem putS_new {fs : List (Str × Int)} {z : Str} {m : Int} (h : z ∉ fs.map (·.1)) : putS fs z m = fs ++ [(z, m)] := by
  unfold putS
  rw [if_neg]
  intro q
  obtain ⟨r, h1, h2⟩ := List.any_eq_true.mp q
  exact h (List.mem_map.mpr ⟨r, h1, of_decide_eq_true h2⟩)
theorem putS_keys {fs : List (Str × Int)} {z : Str} {m : Int} : (putS fs z m).map (·.1) = if z ∈ fs.map (·.1) then fs.map (·.1) else fs.map (·.1) ++ [z] := by
  by_cases h : z ∈ fs.map (·.1)
  · rw [if_pos h]
    obtain ⟨r, h1, h2⟩ := List.mem_map.mp h
    unfold putS
    rw [if_pos (List.any_eq_true.mpr ⟨r, h1, decide_eq_true h2⟩), List.map_map]
    congr 1
    funext r
    show (if r.1 = z then (r.1, m) else r).1 = r.1
    split <;> rfl
  · rw [if_neg h, putS_new h, List.map_append]
    rfl
theorem putS_nd {fs : List (Str × Int)} {z : Str} {m : Int} (hn : (fs.map (·.1)).Nodup) : ((putS fs z m).map (·.1)).Nodup := by
  rw [putS_keys]
  split
  · exact hn
  · next h => exact nd_snoc hn h
theorem putS_len {fs : List (Str × Int)} {z : Str} {m : Int} : (putS fs z m).length ≤ fs.length + 1 := by
  have e : (putS fs z m).length = ((putS fs z m).map (·.1)).length := by rw [List.length_map]
  rw [e, putS_keys]
  split
  · rw [List.length_map]
    omega
  · rw [List.length_append, List.length_map]
    exact Nat.le_refl _
theorem lookS_put (fs : List (Str × Int)) (z y : Str) (m : Int) : lookS (putS fs z m) y = if y = z then some m else lookS fs y := by
  have h := valV_put (kD fs) (Sum.inr z : Key) (Sum.inr y) (V.int m)
  rw [put_kD, val_kD, val_kD] at h
  by_cases e : y = z
  · rw [if_pos (by rw [e])] at h
    rw [if_pos e]
    cases q : lookS (putS fs z m) y with
    | none =>
      rw [q] at h
      cases h
    | some k =>
      rw [q] at h
      have h' : V.int k = V.int m := Option.some.inj h
      rw [V.int.inj h']
  · rw [if_neg (fun q => e (Sum.inr.inj q))] at h
    rw [if_neg e]
    cases q : lookS (putS fs z m) y with
    | none =>
      rw [q] at h
      cases q2 : lookS fs y with
      | none => rfl
      | some k =>
        rw [q2] at h
        cases h
    | some k =>
      rw [q] at h
      cases q2 : lookS fs y with
      | none =>
        rw [q2] at h
        cases h
      | some k2 =>
        rw [q2] at h
        have h' : V.int k = V.int k2 := Option.some.inj h
        rw [V.int.inj h']
theorem dropS_nd {fs : List (Str × Int)} {z : Str} (hn : (fs.map (·.1)).Nodup) : ((dropS fs z).map (·.1)).Nodup := hn.sublist (List.Sublist.map _ List.filter_sublist)
theorem dropS_mem {fs : List (Str × Int)} {z : Str} {r : Str × Int} : r ∈ dropS fs z ↔ r ∈ fs ∧ r.1 ≠ z := by
  unfold dropS
  rw [List.mem_filter]
  simp
theorem lookS_drop {fs : List (Str × Int)} {z y : Str} (hn : (fs.map (·.1)).Nodup) : lookS (dropS fs z) y = if y = z then none else lookS fs y := by
  by_cases e : y = z
  · rw [if_pos e]
    refine lookS_none fun h => ?_
    obtain ⟨r, h1, h2⟩ := List.mem_map.mp h
    exact (dropS_mem.mp h1).2 (h2.trans e)
  · rw [if_neg e]
    cases q : lookS fs y with
    | some m => exact mem_lookS (dropS_nd hn) (dropS_mem.mpr ⟨lookS_mem q, e⟩)
    | none =>
      refine lookS_none fun h => ?_
      obtain ⟨r, h1, h2⟩ := List.mem_map.mp h
      have h3 : (lookS fs y).isSome = true := lookS_key.mpr (List.mem_map.mpr ⟨r, (dropS_mem.mp h1).1, h2⟩)
      rw [q] at h3
      cases h3
/-- the least minute of each place -/
structure LmOk (rows fs : List (Str × Int)) : Prop where
  nd : (fs.map (·.1)).Nodup
  of : ∀ r ∈ fs, r ∈ rows
  le : ∀ r ∈ rows, ∃ t, lookS fs r.1 = some t ∧ t ≤ r.2
  len : fs.length ≤ rows.length
theorem lm_nil : LmOk [] [] := ⟨List.nodup_nil, fun _ h => (nomatch h), fun _ h => (nomatch h), Nat.le_refl _⟩
theorem lm_snoc {rows fs : List (Str × Int)} (h : LmOk rows fs) (z : Str) (m : Int) : LmOk (rows ++ [(z, m)]) (putS fs z (if (lookS fs z).getD m < m then (lookS fs z).getD m else m)) := by
  refine ⟨putS_nd h.nd, fun r hr => ?_, fun r hr => ?_, ?_⟩
  · have e := mem_lookS (putS_nd h.nd) (show (r.1, r.2) ∈ _ from hr)
    rw [lookS_put] at e
    by_cases q : r.1 = z
    · rw [if_pos q] at e
      have e' := Option.some.inj e
      obtain ⟨a, n⟩ := r
      have q' : a = z := q
      subst q'
      have e'' : (if (lookS fs a).getD m < m then (lookS fs a).getD m else m) = n := e'
      by_cases c : (lookS fs a).getD m < m
      · rw [if_pos c] at e''
        cases l : lookS fs a with
        | none =>
          rw [l] at c
          exact absurd c (Int.lt_irrefl _)
        | some k =>
          rw [l] at e''
          have e3 : k = n := e''
          rw [← e3]
          exact List.mem_append.mpr (.inl (h.of _ (lookS_mem l)))
      · rw [if_neg c] at e''
        rw [← e'']
        exact List.mem_append.mpr (.inr List.mem_cons_self)
    · rw [if_neg q] at e
      exact List.mem_append.mpr (.inl (h.of _ (lookS_mem e)))
  · rw [lookS_put]
    rcases List.mem_append.mp hr with hr | hr
    · obtain ⟨t, h1, h2⟩ := h.le r hr
      by_cases q : r.1 = z
      · rw [if_pos q]
        refine ⟨_, rfl, ?_⟩
        rw [← q, h1]
        show (if t < m then t else m) ≤ r.2
        split <;> omega
      · rw [if_neg q]
        exact ⟨t, h1, h2⟩
    · cases List.mem_singleton.mp hr
      rw [if_pos rfl]
      refine ⟨_, rfl, ?_⟩
      show (if (lookS fs z).getD m < m then (lookS fs z).getD m else m) ≤ m
      split <;> omega
  · rw [List.length_append]
    have := putS_len (fs := fs) (z := z) (m := if (lookS fs z).getD m < m then (lookS fs z).getD m else m)
    have := h.len
    show _ ≤ rows.length + 1
    omega
section
variable {P : Program} {w : World} {K : PySem.W.Frag} {mg : Str → Option Value} {base : Heap}
def spLeastMinutes (K : PySem.W.Frag) : Sp := fun vs H Q _ => ∃ (v : V) (rows : List (Str × Int)), vs = [v] ∧ Dp K H v (.list (rows.map srD)) ∧ rows.length ≤ 900 ∧
  ∀ (p : Addr) (H' : Hp) (fs : List (Str × Int)), H p = none → Same H H' → H' p = some (.dK (kD fs)) → LmOk rows fs → Q (.ref p) H'
theorem scLeastMinutes : FnScope ["rows", "found", "place", "minute"] ["rows"] (defScope sLeastMinutes) := ⟨rfl, rfl, rfl, by decide +kernel, rfl, by decide +kernel, by decide +kernel⟩
theorem ok_least_minutes (T : Txt K mg) : Has P w K mg base 1 "least_minutes" ["rows"] (spLeastMinutes K) := by
  refine has_of T.dLeastMinutes T.gLeastMinutes scLeastMinutes (fun vs H Q E h => by obtain ⟨v, rows, rfl, _⟩ := h; rfl) (fun _ _ _ _ _ _ us hl => match us, hl with | [_], _ => rfl) fun cdv A outer s H vs Q E hr h => ?_
  obtain ⟨v, rows, rfl, hv, hz, k⟩ := h
  obtain ⟨a, xs, rfl, hS, hd⟩ := dp_lst hv
  have hlen : xs.length = rows.length := by rw [dpa_len hd, List.length_map]
  have hu := hu_of hr
  refine ⟨_, pss_cons (ps_set (i := 1) scLeastMinutes.nd rfl (.inl rfl) pe_dnewK) (pss_cons (ps_for PassesOwn.never rfl (pi_list (pv 0)) (pg_tup rfl (pgs_cons (pg_name (i := 2) scLeastMinutes.nd rfl (.inl rfl)) (pgs_cons (pg_name (i := 3) scLeastMinutes.nd rfl (.inl rfl)) pgs_nil)))
    (pss_one (ps_dput hu (pv 1) (pv 2) (pe_callB (call_min2 rfl) (by rfl) T.fMin (by decide +kernel) (pa_cons (pv 3) (pa_cons (pe_dget2 hu (pv 1) (pv 2) (pv 3) ⟨rfl, rfl, rfl, rfl⟩) pa_nil))) rfl))) (pss_one (ps_ret (pv 1)))), ?_⟩
  intro d hdn
  have s0 : Same H (upd H d (.dK [])) := sm_up hdn
  refine ⟨_, rfl, a, rfl, ⟨_, s0.seq hS⟩, for_list (K := K) (a := a) (xs := xs) (fun i σ H' => Same H H' ∧ (∃ u1 u2, σ = [some (.ref a), some (.ref d), u1, u2]) ∧ ∃ fs, H' d = some (.dK (kD fs)) ∧ LmOk (rows.take i) fs) ⟨s0, ⟨none, none, rfl⟩, [], upd_same, lm_nil⟩ (fun i σ H' _ q => q.1.seq hS) ?_ ?_⟩
  · rintro i x σ H' hx ⟨s1, ⟨u1, u2, rfl⟩, fs, hfs, lm⟩
    obtain ⟨d0, h1, h2⟩ := dpa_get hd hx
    obtain ⟨r, h3, rfl⟩ := get_map h1
    obtain ⟨b, y, z, rfl, hs, hy, hz'⟩ := dp_tup2 (dp_sm s1 _ _ h2)
    obtain rfl := dp_str hy
    obtain rfl := dp_int hz'
    have hil : i < rows.length := (List.getElem?_eq_some_iff.mp h3).1
    have hfl : fs.length ≤ i := by
      have := lm.len
      rw [List.length_take] at this
      omega
    refine ⟨b, _, rfl, hs, rfl, _, _, rfl, _, _, rfl, rfl, ?_⟩
    refine ⟨_, rfl, _, rfl, d, rfl, .inl ⟨_, .inl hfs⟩, _, rfl, _, rfl, _, DGet.k (k := Sum.inr r.1) hfs, r.2, (lookS fs r.1).getD r.2, ?_, ?_⟩
    · rw [val_kD]
      cases lookS fs r.1 <;> rfl
    · refine ⟨_, rfl, _, rfl, d, _, rfl, DPut.k (k := Sum.inr r.1) hfs (small1000 (by unfold kD; rw [List.length_map]; omega)), ?_⟩
      refine ⟨sm_mut s1 hdn, ⟨_, _, rfl⟩, putS fs r.1 (if (lookS fs r.1).getD r.2 < r.2 then (lookS fs r.1).getD r.2 else r.2), ?_, ?_⟩
      · rw [upd_same]
        exact congrArg (fun l => some (HO.dK l)) (put_kD fs r.1 _)
      · rw [take_snoc h3]
        exact lm_snoc lm r.1 r.2
  · rintro σ H' ⟨s1, ⟨u1, u2, rfl⟩, fs, hfs, lm⟩
    rw [hlen, List.take_length] at lm
    exact ⟨_, rfl, k d H' fs hdn s1 hfs lm⟩
end
/-- when a fire is through a link: r the least end, none for never -/
structure CaughtR (winds : List Str) (ws : List (Int × Str)) (row : List (Option Int)) (t : Int) (r : Option Int) : Prop where
  gt : ∀ e, r = some e → t < e ∧ ∃ n, some n ∈ row
  le : ∀ s, s ∈ chancesL ws t → ∀ (j : Nat) (x : Str) (n : Int), windAt ws s = some x → winds[j]? = some x → row[j]? = some (some n) → ∃ e, r = some e ∧ e ≤ s + n
/-- what is known of the ends so far -/
structure EndsR (winds : List Str) (ws : List (Int × Str)) (row : List (Option Int)) (t : Int) (cs es : List Int) : Prop where
  gt : ∀ e ∈ es, t < e ∧ ∃ n, some n ∈ row
  has : ∀ s, s ∈ cs → ∀ (j : Nat) (x : Str) (n : Int), windAt ws s = some x → winds[j]? = some x → row[j]? = some (some n) → s + n ∈ es
  len : es.length ≤ cs.length
theorem caught_of {winds ws row t cs es} (h : EndsR winds ws row t cs es) (hc : cs = chancesL ws t) : (es = [] → CaughtR winds ws row t none) ∧ ∀ m, m ∈ es → (∀ y, y ∈ es → m ≤ y) → CaughtR winds ws row t (some m) := by
  subst hc
  refine ⟨fun e => ⟨fun _ q => (nomatch q), fun s hs j x n h1 h2 h3 => ?_⟩, fun m hm hl => ⟨fun e q => ?_, fun s hs j x n h1 h2 h3 => ⟨m, rfl, hl _ (h.has s hs j x n h1 h2 h3)⟩⟩⟩
  · have q := h.has s hs j x n h1 h2 h3
    rw [e] at q
    cases q
  · cases q
    exact h.gt m hm
section
variable {P : Program} {w : World} {K : PySem.W.Frag} {mg : Str → Option Value} {base : Heap}
def spCaught (K : PySem.W.Frag) : Sp := fun vs H Q _ => ∃ (p : Addr) (L : LandD) (v rv : V) (ws : List (Int × Str)) (row : List (Option Int)) (t : Int), vs = [.ref p, v, rv, .int t] ∧ LandAt K H p L ∧ LandOk L ∧ Dp K H v (.list (ws.map wrD)) ∧ ws.length ≤ 500 ∧
  (∀ s, t ≤ s → ∃ x, windAt ws s = some x ∧ x ∈ L.winds) ∧ Dp K H rv (rowD row) ∧ row.length = L.winds.length ∧ (∀ n, some n ∈ row → 1 ≤ n) ∧ ∀ (H' : Hp) (r : Option Int), Same H H' → CaughtR L.winds ws row t r → Q (oiV r) H'
theorem scCaught : FnScope ["land", "weather", "row", "minute", "ends", "start", "number"] ["land", "weather", "row", "minute"] (defScope sCaught) := ⟨rfl, rfl, rfl, by decide +kernel, rfl, by decide +kernel, by decide +kernel⟩
theorem ok_caught (T : Txt K mg) : Has P w K mg base 2 "caught" ["land", "weather", "row", "minute"] (spCaught K) := by
  have Gc : Has P w K mg base 1 "chances" ["weather", "minute"] (spChances K) := ok_chances T
  have Gb : Has P w K mg base 1 "blowing" ["weather", "minute"] (spBlowing K) := ok_blowing T
  refine has_of T.dCaught T.gCaught scCaught (fun vs H Q E h => by obtain ⟨p, L, v, rv, ws, row, t, rfl, _⟩ := h; rfl) (fun _ _ _ _ _ _ us hl => match us, hl with | [_, _, _, _], _ => rfl) fun cdv A outer s H vs Q E hr h => ?_
  obtain ⟨p, L, v, rv, ws, row, t, rfl, hL, ok, hv, hz, hw, hrow, rl, r1, k⟩ := h
  obtain ⟨dx, wd, pl, l, pa, hp, hwd, hpl, hl, hpa⟩ := id hL
  obtain ⟨ra, ys, rfl, hR, hys⟩ := dp_tup hrow
  refine ⟨_, pss_cons (ps_set (i := 4) scCaught.nd rfl (.inl rfl) (pe_lst pa_nil))
    (pss_cons (ps_for PassesOwn.never rfl (pi_list (pe_f Gc hr (by rfl) (pa_cons (pv 1) (pa_cons (pv 3) pa_nil)))) (pg_name (i := 5) scCaught.nd rfl (.inl rfl))
      (pss_cons (ps_set (i := 6) scCaught.nd rfl (.inl rfl) (pe_ix ix_tup (pv 2) (pe_ti PySem.F.slot_tuple_index PySem.F.type_tuple_index mt_tup_index (pe_fld (pv 0) rfl) (pa_cons (pe_f Gb hr (by rfl) (pa_cons (pv 1) (pa_cons (pv 5) pa_nil))) pa_nil)) (fun _ _ => rfl)))
      (pss_one (ps_if (pt_cmp (pc_notN (pv 6))) (pss_one (ps_expr (pe_bm PySem.F.plainAttrs_list PySem.F.slot_list_append PySem.F.type_list_append mt_append (pv 4) (pa_cons (pe_op op_add (pv 5) (pv 6)) pa_nil)))) pss_nil))))
    (pss_one (ps_ret (pe_callBK (cr_minDf rfl hr.units) (by rfl) T.fMin (by decide +kernel) (pa_cons (pv 4) pa_nil) (pk_cons pe_non pk_nil))))), ?_⟩
  refine ⟨Nat.zero_le _, fun D hD => ?_⟩
  have s0 : Same H (upd H D (.lst [])) := sm_up hD
  refine ⟨_, rfl, _, rfl, v, ws, t, rfl, dp_sm s0 _ _ hv, by omega, fun c H1 s1 hc => ⟨c, rfl, ⟨_, SqL.of hc⟩, for_list (K := K) (a := c) (xs := (chancesL ws t).map V.int)
    (fun i σ H' => Same H H' ∧ H' c = some (.lst ((chancesL ws t).map V.int)) ∧ (∃ u1 u2, σ = [some (.ref p), some v, some (.ref ra), some (.int t), some (.ref D), u1, u2]) ∧ ∃ es, H' D = some (.lst (es.map V.int)) ∧ EndsR L.winds ws row t ((chancesL ws t).take i) es)
    ?_ (fun i σ H' _ q => SqL.of q.2.1) ?_ ?_⟩⟩
  · exact ⟨s0.trans s1, hc, ⟨none, none, rfl⟩, [], s1 _ _ upd_same, fun _ h => (nomatch h), fun _ h => by simp at h, Nat.zero_le _⟩
  · rintro i x σ H' hx q
    obtain ⟨s2, hc2, ⟨u1, u2, rfl⟩, es, hes, er⟩ := q
    obtain ⟨st, h3, rfl⟩ := get_map hx
    have hmem : st ∈ chancesL ws t := List.mem_of_getElem? h3
    have hge : t ≤ st := by
      rcases List.mem_cons.mp hmem with e | e
      · omega
      · obtain ⟨r, e1, e2⟩ := List.mem_map.mp e
        have := of_decide_eq_true (List.mem_filter.mp e1).2
        omega
    obtain ⟨x, hx1, hx2⟩ := hw st hge
    obtain ⟨j, hj1, hj2⟩ := List.mem_iff_getElem.mp hx2
    have hj : L.winds[j]? = some x := by rw [List.getElem?_eq_getElem hj1, hj2]
    obtain ⟨o, ho⟩ : ∃ o, row[j]? = some o := ⟨row[j]'(by omega), List.getElem?_eq_getElem _⟩
    obtain ⟨y, hy1, hy2⟩ := dpa_at hys (i := j) (d := oiD o) (by rw [List.getElem?_map, ho]; rfl)
    have ey : y = oiV o := by
      cases o with
      | none => exact dp_non hy2
      | some n => exact dp_int hy2
    subst ey
    have hcl : (chancesL ws t).length ≤ 501 := by
      unfold chancesL
      rw [List.length_cons, List.length_map]
      have := List.length_filter_le (fun r : Int × Str => decide (t < r.1)) ws
      omega
    have hel : es.length ≤ 501 := by
      have := er.len
      rw [List.length_take] at this
      omega
    refine ⟨_, rfl, _, rfl, p, CL K, dx, _, _, rfl, s2 _ _ hp, T.cl, T.nWinds, lf_winds _ _ _ _, ⟨wd, _, rfl, tupN_sm s2 hwd⟩, _, rfl, _, rfl, v, ws, st, x, rfl, dp_sm s2 _ _ hv, by omega, hx1, fun H3 s3 => ?_⟩
    have s4 := s2.trans s3
    refine ⟨wd, L.winds, x, j, rfl, rfl, tupN_sq (tupN_sm s4 hwd), hj, fun m hm e => absurd (nd_ix ok.wnd e hj) (by omega), ra, ys, _, _, rfl, rfl, sm_tup s4 hR, atI_nat hy1, ?_⟩
    cases o with
    | none =>
      refine ⟨_, rfl, false, rfl, iteF ⟨s4, s3 _ _ hc2, ⟨_, _, rfl⟩, es, s3 _ _ hes, ?_⟩⟩
      rw [take_snoc h3]
      refine ⟨er.gt, fun s hs j' x' n g1 g2 g3 => ?_, by rw [List.length_append]; have := er.len; omega⟩
      rcases List.mem_append.mp hs with hs | hs
      · exact er.has s hs j' x' n g1 g2 g3
      · cases List.mem_singleton.mp hs
        rw [hx1] at g1
        cases g1
        have := nd_ix ok.wnd g2 hj
        subst this
        rw [ho] at g3
        cases g3
    | some n =>
      refine ⟨_, rfl, true, rfl, iteT ?_⟩
      refine ⟨_, rfl, .inl ⟨rfl, _, SqL.of (s3 _ _ hes)⟩, _, rfl, _, rfl, _, _, rfl, rfl, D, _, _, rfl, rfl, s3 _ _ hes, small1000 (by rw [List.length_map]; omega), ?_⟩
      have hcD : c ≠ D := by
        intro e
        rw [e, s1 _ _ upd_same] at hc
        cases hc
      refine ⟨sm_mut s4 hD, by rw [upd_ne hcD]; exact s3 _ _ hc2, ⟨_, _, rfl⟩, es ++ [st + n], by rw [upd_same, List.map_append]; rfl, ?_⟩
      rw [take_snoc h3]
      have h1n := r1 n (List.mem_of_getElem? ho)
      refine ⟨fun e he => ?_, fun s hs j' x' n' g1 g2 g3 => ?_, by rw [List.length_append, List.length_append]; exact Nat.add_le_add_right er.len 1⟩
      · rcases List.mem_append.mp he with he | he
        · exact er.gt e he
        · cases List.mem_singleton.mp he
          exact ⟨by omega, n, List.mem_of_getElem? ho⟩
      · rcases List.mem_append.mp hs with hs | hs
        · exact List.mem_append.mpr (.inl (er.has s hs j' x' n' g1 g2 g3))
        · cases List.mem_singleton.mp hs
          rw [hx1] at g1
          cases g1
          have := nd_ix ok.wnd g2 hj
          subst this
          rw [ho] at g3
          cases g3
          exact List.mem_append.mpr (.inr List.mem_cons_self)
  · rintro σ H' q
    obtain ⟨s2, hc2, ⟨u1, u2, rfl⟩, es, hes, er⟩ := q
    rw [List.length_map, List.take_length] at er
    obtain ⟨c0, c1⟩ := caught_of er rfl
    exact ⟨_, rfl, D, es, rfl, rfl, SqL.of hes, fun e => k H' none s2 (c0 e), fun m h1 h2 => k H' (some m) s2 (c1 m h1 h2)⟩
end
/-! ### spread: what holds of the fire -/
theorem nodup_len : ∀ {l m : List Str}, l.Nodup → (∀ x ∈ l, x ∈ m) → l.length ≤ m.length
  | [], _, _, _ => Nat.zero_le _
  | a :: l, m, h, hs => by
    have h' := List.nodup_cons.mp h
    have hm : a ∈ m := hs a List.mem_cons_self
    have ih := nodup_len (l := l) (m := m.erase a) h'.2 fun x hx => by
      have hne : x ≠ a := fun e => h'.1 (e ▸ hx)
      exact (List.mem_erase_of_ne hne).mpr (hs x (List.mem_cons_of_mem _ hx))
    have e := List.length_erase_of_mem hm
    have hp : 0 < m.length := List.length_pos_of_mem hm
    rw [List.length_cons]
    omega
section
variable (winds places : List Str) (links : List Lk) (rows : List (List (Option Int))) (wt : List (Int × Str)) (starts : List (Str × Int)) (B : List Str)
/-- a set of places that no fire leaves -/
structure Closed (I : Str → Prop) : Prop where
  st : ∀ r ∈ starts, r.1 ∉ B → I r.1
  go : ∀ (i : Nat) (l : Lk) (row : List (Option Int)), links[i]? = some l → rows[i]? = some row → I l.one → l.oth ∉ B → (∃ n, some n ∈ row) → I l.oth
/-- z burns by the minute b, or will -/
def Hv (fo ws : List (Str × Int)) (z : Str) (b : Int) : Prop := ∃ t, (lookS fo z = some t ∨ lookS ws z = some t) ∧ t ≤ b
def ClosAt (fo ws : List (Str × Int)) (t : Int) (l : Lk) (row : List (Option Int)) : Prop :=
  ∀ s, s ∈ chancesL wt t → ∀ (j : Nat) (x : Str) (n : Int), windAt wt s = some x → winds[j]? = some x → row[j]? = some (some n) → Hv fo ws l.oth (s + n)
structure SpI (fo ws : List (Str × Int)) (Dn : Nat → Str → Prop) : Prop where
  nw : (ws.map (·.1)).Nodup
  nf : (fo.map (·.1)).Nodup
  dj : ∀ z, z ∈ fo.map (·.1) → z ∉ ws.map (·.1)
  kw : ∀ z, z ∈ ws.map (·.1) → z ∈ places
  kf : ∀ z, z ∈ fo.map (·.1) → z ∈ places
  gw : ∀ r ∈ ws, 0 ≤ r.2
  gf : ∀ r ∈ fo, 0 ≤ r.2
  mon : ∀ f ∈ fo, ∀ r ∈ ws, f.2 ≤ r.2
  sw : ∀ I, Closed links rows starts B I → ∀ r ∈ ws, I r.1
  sf : ∀ I, Closed links rows starts B I → ∀ r ∈ fo, I r.1
  st : ∀ r ∈ starts, r.1 ∉ B → Hv fo ws r.1 r.2
  cl : ∀ (i : Nat) (l : Lk) (row : List (Option Int)), links[i]? = some l → rows[i]? = some row → l.oth ∉ B → ∀ t, lookS fo l.one = some t → Dn i l.one → ClosAt winds wt fo ws t l row
end
section
variable {winds places : List Str} {links : List Lk} {rows : List (List (Option Int))} {wt : List (Int × Str)} {starts : List (Str × Int)} {B : List Str} {fo ws : List (Str × Int)}
theorem key_of_mem {fs : List (Str × Int)} {r : Str × Int} (h : r ∈ fs) : r.1 ∈ fs.map (·.1) := List.mem_map.mpr ⟨r, h, rfl⟩
theorem look_key {fs : List (Str × Int)} {z : Str} {t : Int} (h : lookS fs z = some t) : z ∈ fs.map (·.1) := lookS_key.mp (by rw [h]; rfl)
/-- the place p of the least minute m is taken -/
theorem spI_pop (S : SpI winds places links rows wt starts B fo ws fun _ _ => True) {p : Str} {m : Int} (hm : (p, m) ∈ ws) (least : ∀ r ∈ ws, m ≤ r.2) :
    SpI winds places links rows wt starts B (putS fo p m) (dropS ws p) (fun i q => q ≠ p ∨ i < 0) ∧ (∀ f ∈ putS fo p m, f.2 ≤ m) ∧ (putS fo p m).length = fo.length + 1 ∧ lookS (putS fo p m) p = some m := by
  have hp : p ∉ fo.map (·.1) := fun h => S.dj p h (key_of_mem hm)
  have e : putS fo p m = fo ++ [(p, m)] := putS_new hp
  have lp : lookS ws p = some m := mem_lookS S.nw hm
  have tr : ∀ {z b}, Hv fo ws z b → Hv (putS fo p m) (dropS ws p) z b := fun {z b} h => by
    obtain ⟨t, h, ht⟩ := h
    refine ⟨t, ?_, ht⟩
    rw [lookS_put, lookS_drop S.nw]
    by_cases q : z = p
    · subst q
      rw [if_pos rfl]
      rcases h with h | h
      · exact absurd (look_key h) hp
      · rw [lp] at h
        exact .inl h
    · rw [if_neg q, if_neg q]
      exact h
  have mem : ∀ f ∈ putS fo p m, f ∈ fo ∨ f = (p, m) := fun f hf => by
    rw [e] at hf
    rcases List.mem_append.mp hf with h | h
    · exact .inl h
    · exact .inr (List.mem_singleton.mp h)
  have fm : ∀ f ∈ putS fo p m, f.2 ≤ m := fun f hf => by
    rcases mem f hf with h | h
    · exact S.mon f h _ hm
    · rw [h]
      exact Int.le_refl _
  refine ⟨⟨dropS_nd S.nw, putS_nd S.nf, fun z hz hw => ?_, fun z hz => ?_, fun z hz => ?_, fun r hr => S.gw r (dropS_mem.mp hr).1, fun r hr => ?_, fun f hf r hr => Int.le_trans (fm f hf) (least r (dropS_mem.mp hr).1), fun I hI r hr => S.sw I hI r (dropS_mem.mp hr).1,
    fun I hI r hr => ?_, fun r hr hb => tr (S.st r hr hb), fun i l row h1 h2 h3 t h4 h5 => ?_⟩, fm, by rw [e, List.length_append]; rfl, by rw [lookS_put, if_pos rfl]⟩
  · obtain ⟨r, hr, er⟩ := List.mem_map.mp hw
    obtain ⟨hr1, hr2⟩ := dropS_mem.mp hr
    obtain ⟨f, hf, ef⟩ := List.mem_map.mp hz
    rcases mem f hf with h | h
    · exact S.dj z (by rw [← ef]; exact key_of_mem h) (by rw [← er]; exact key_of_mem hr1)
    · rw [h] at ef
      exact hr2 (er.trans ef.symm)
  · obtain ⟨r, hr, er⟩ := List.mem_map.mp hz
    exact S.kw z (by rw [← er]; exact key_of_mem (dropS_mem.mp hr).1)
  · obtain ⟨f, hf, ef⟩ := List.mem_map.mp hz
    rcases mem f hf with h | h
    · exact S.kf z (by rw [← ef]; exact key_of_mem h)
    · rw [h] at ef
      rw [← ef]
      exact S.kw p (key_of_mem hm)
  · rcases mem r hr with h | h
    · exact S.gf r h
    · rw [h]
      exact S.gw _ hm
  · rcases mem r hr with h | h
    · exact S.sf I hI r h
    · rw [h]
      exact S.sw I hI _ hm
  · have hne : l.one ≠ p := by
      rcases h5 with h5 | h5
      · exact h5
      · exact absurd h5 (Nat.not_lt_zero _)
    rw [lookS_put, if_neg hne] at h4
    exact fun s hs j x n g1 g2 g3 => tr (S.cl i l row h1 h2 h3 t h4 trivial s hs j x n g1 g2 g3)
/-- a link that brings nothing -/
theorem spI_skip {p : Str} {m : Int} {i : Nat} (S : SpI winds places links rows wt starts B fo ws fun k q => q ≠ p ∨ k < i) {l : Lk} {row : List (Option Int)} (h1 : links[i]? = some l) (h2 : rows[i]? = some row)
    (hc : l.one = p → l.oth ∉ B → ∀ t, lookS fo p = some t → ClosAt winds wt fo ws t l row) : SpI winds places links rows wt starts B fo ws fun k q => q ≠ p ∨ k < i + 1 :=
  ⟨S.nw, S.nf, S.dj, S.kw, S.kf, S.gw, S.gf, S.mon, S.sw, S.sf, S.st, fun k l' row' g1 g2 g3 t g4 g5 => by
    by_cases q : l'.one = p
    · by_cases e : k = i
      · subst e
        rw [h1] at g1
        rw [h2] at g2
        cases g1
        cases g2
        rw [q] at g4
        exact hc q g3 t g4
      · refine S.cl k l' row' g1 g2 g3 t g4 (.inr ?_)
        rcases g5 with g5 | g5
        · exact absurd q g5
        · omega
    · exact S.cl k l' row' g1 g2 g3 t g4 (.inl q)⟩
/-- a link whose end is later than m is laid among the waiting ones -/
theorem spI_put {p : Str} {m e : Int} {i : Nat} (S : SpI winds places links rows wt starts B fo ws fun k q => q ≠ p ∨ k < i) {l : Lk} {row : List (Option Int)} (h1 : links[i]? = some l) (h2 : rows[i]? = some row) (fm : ∀ f ∈ fo, f.2 ≤ m) (hp : lookS fo p = some m) (ho : l.one = p)
    (hn : l.oth ∉ fo.map (·.1)) (hb : l.oth ∉ B) (hpl : l.oth ∈ places) (me : m < e) (hrow : ∃ n, some n ∈ row)
    (hle : ∀ s, s ∈ chancesL wt m → ∀ (j : Nat) (x : Str) (n : Int), windAt wt s = some x → winds[j]? = some x → row[j]? = some (some n) → e ≤ s + n) :
    SpI winds places links rows wt starts B fo (putS ws l.oth (if (lookS ws l.oth).getD e < e then (lookS ws l.oth).getD e else e)) fun k q => q ≠ p ∨ k < i + 1 := by
  have hm0 : 0 ≤ m := S.gf _ (lookS_mem hp)
  -- the new minute
  have v : ∃ v, (if (lookS ws l.oth).getD e < e then (lookS ws l.oth).getD e else e) = v ∧ v ≤ e ∧ m ≤ v ∧ (∀ t, lookS ws l.oth = some t → v ≤ t) := by
    refine ⟨_, rfl, ?_, ?_, fun t ht => ?_⟩
    · split <;> omega
    · split
      · next c =>
        cases q : lookS ws l.oth with
        | none =>
          rw [q] at c
          exact absurd c (Int.lt_irrefl _)
        | some t =>
          have := S.mon _ (lookS_mem hp) _ (lookS_mem q)
          exact this
      · omega
    · rw [ht]
      show (if t < e then t else e) ≤ t
      split <;> omega
  obtain ⟨v, ev, v1, v2, v3⟩ := v
  rw [ev]
  have mem : ∀ r ∈ putS ws l.oth v, r ∈ ws ∨ r = (l.oth, v) := fun r hr => by
    have q := mem_lookS (putS_nd S.nw) (show (r.1, r.2) ∈ putS ws l.oth v from hr)
    rw [lookS_put] at q
    by_cases c : r.1 = l.oth
    · rw [if_pos c] at q
      right
      have q' := Option.some.inj q
      exact Prod.ext c q'.symm
    · rw [if_neg c] at q
      exact .inl (lookS_mem q)
  have key : ∀ z, z ∈ (putS ws l.oth v).map (·.1) → z ∈ ws.map (·.1) ∨ z = l.oth := fun z hz => by
    obtain ⟨r, hr, er⟩ := List.mem_map.mp hz
    rcases mem r hr with h | h
    · exact .inl (by rw [← er]; exact key_of_mem h)
    · right
      rw [← er, h]
  have tr : ∀ {z b}, Hv fo ws z b → Hv fo (putS ws l.oth v) z b := fun {z b} h => by
    obtain ⟨t, h, ht⟩ := h
    rcases h with h | h
    · exact ⟨t, .inl h, ht⟩
    · by_cases q : z = l.oth
      · subst q
        exact ⟨v, .inr (by rw [lookS_put, if_pos rfl]), Int.le_trans (v3 t h) ht⟩
      · exact ⟨t, .inr (by rw [lookS_put, if_neg q]; exact h), ht⟩
  refine ⟨putS_nd S.nw, S.nf, fun z hz hw => ?_, fun z hz => ?_, S.kf, fun r hr => ?_, S.gf, fun f hf r hr => ?_, fun I hI r hr => ?_, S.sf, fun r hr h => tr (S.st r hr h), fun k l' row' g1 g2 g3 t g4 g5 => ?_⟩
  · rcases key z hw with h | h
    · exact S.dj z hz h
    · rw [h] at hz
      exact hn hz
  · rcases key z hz with h | h
    · exact S.kw z h
    · rw [h]
      exact hpl
  · rcases mem r hr with h | h
    · exact S.gw r h
    · rw [h]
      show 0 ≤ v
      omega
  · rcases mem r hr with h | h
    · exact S.mon f hf r h
    · rw [h]
      have := fm f hf
      show f.2 ≤ v
      omega
  · rcases mem r hr with h | h
    · exact S.sw I hI r h
    · rw [h]
      refine hI.go i l row h1 h2 ?_ hb hrow
      rw [ho]
      exact S.sf I hI _ (lookS_mem hp)
  · by_cases q : l'.one = p
    · by_cases ek : k = i
      · subst ek
        rw [h1] at g1
        rw [h2] at g2
        cases g1
        cases g2
        rw [q, hp] at g4
        cases g4
        intro s hs j x n w1 w2 w3
        exact ⟨v, .inr (by rw [lookS_put, if_pos rfl]), Int.le_trans v1 (hle s hs j x n w1 w2 w3)⟩
      · intro s hs j x n w1 w2 w3
        refine tr (S.cl k l' row' g1 g2 g3 t g4 (.inr ?_) s hs j x n w1 w2 w3)
        rcases g5 with g5 | g5
        · exact absurd q g5
        · omega
    · intro s hs j x n w1 w2 w3
      exact tr (S.cl k l' row' g1 g2 g3 t g4 (.inl q) s hs j x n w1 w2 w3)
/-- what the found ones are at the end -/
structure FireR (winds places : List Str) (links : List Lk) (rows : List (List (Option Int))) (wt : List (Int × Str)) (starts : List (Str × Int)) (B : List Str) (fo : List (Str × Int)) : Prop where
  nf : (fo.map (·.1)).Nodup
  sf : ∀ I, Closed links rows starts B I → ∀ r ∈ fo, I r.1
  st : ∀ r ∈ starts, r.1 ∉ B → ∃ t, lookS fo r.1 = some t ∧ t ≤ r.2
  cl : ∀ (i : Nat) (l : Lk) (row : List (Option Int)), links[i]? = some l → rows[i]? = some row → l.oth ∉ B → ∀ t, lookS fo l.one = some t →
    ∀ s, s ∈ chancesL wt t → ∀ (j : Nat) (x : Str) (n : Int), windAt wt s = some x → winds[j]? = some x → row[j]? = some (some n) → ∃ t', lookS fo l.oth = some t' ∧ t' ≤ s + n
theorem spI_end (S : SpI winds places links rows wt starts B fo [] fun _ _ => True) : FireR winds places links rows wt starts B fo := by
  have h : ∀ {z b}, Hv fo [] z b → ∃ t, lookS fo z = some t ∧ t ≤ b := fun {z b} ⟨t, h, ht⟩ => by
    rcases h with h | h
    · exact ⟨t, h, ht⟩
    · cases h
  exact ⟨S.nf, S.sf, fun r hr hb => h (S.st r hr hb), fun i l row g1 g2 g3 t g4 s hs j x n w1 w2 w3 => h (S.cl i l row g1 g2 g3 t g4 trivial s hs j x n w1 w2 w3)⟩
end
/-- an expression's thing locked behind it -/
def tLockV (te : TE) : TE := fun σ H Q => te σ H fun x H1 => ∃ d u, x = V.ref d ∧ H1 d = some u ∧ Mut (some u) ∧ ∀ od, Q (.ref d) (upd H1 d (.frz od u))
theorem pe_lockV {X : Cx} {e : Expr} {te : TE} (h : PE X e te) : PE X e (tLockV te) := by
  refine ⟨fun pins s σ H Q I hw => ?_⟩
  refine thn (h.run pins s σ H _ I hw) fun v s1 ⟨x, H1, I1, r, d, u, ex, hd, mu, q⟩ => ?_
  obtain ⟨od, I2⟩ := I1.lock hd mu
  subst ex
  exact ⟨_, _, I2, r, q od⟩
theorem dgS {H : Hp} {a : Addr} {fs : List (Str × Int)} (h : H a = some (.dK (kD fs))) (z : Str) : DGet H a (.str z) ((lookS fs z).map V.int) := by
  rw [← val_kD]
  exact DGet.k (k := Sum.inr z) h
theorem brk {B : List Str} {fb : List (Str × Int)} (lm : LmOk (B.map fun z => (z, (0 : Int))) fb) (z : Str) : (z ∈ B → lookS fb z = some 0) ∧ (z ∉ B → lookS fb z = none) := by
  constructor
  · intro h
    obtain ⟨t, h1, _⟩ := lm.le (z, 0) (List.mem_map.mpr ⟨z, h, rfl⟩)
    obtain ⟨y, _, e⟩ := List.mem_map.mp (lm.of _ (lookS_mem h1))
    injection e with e1 e2
    rw [h1, ← e2]
  · intro h
    refine lookS_none fun m => h ?_
    obtain ⟨r, h1, h2⟩ := List.mem_map.mp m
    obtain ⟨y, hy, e⟩ := List.mem_map.mp (lm.of r h1)
    rw [← h2, ← e]
    exact hy
theorem kD_at {fs : List (Str × Int)} {i : Nat} {x y : V} (h1 : ((kD fs)[i]?.map fun kv => kV kv.1) = some x) (h2 : ((kD fs)[i]?.map Prod.snd) = some y) : ∃ r, fs[i]? = some r ∧ x = .str r.1 ∧ y = .int r.2 := by
  unfold kD at h1 h2
  rw [List.getElem?_map] at h1 h2
  cases e : fs[i]? with
  | none =>
    rw [e] at h1
    cases h1
  | some r =>
    rw [e] at h1 h2
    exact ⟨r, rfl, (Option.some.inj h1).symm, (Option.some.inj h2).symm⟩
theorem tps_unl {H : Hp} {d : Addr} {od : Obj} {kvs : List (Key × V)} (h : H d = some (.frz od (.dK kvs))) (u : HO) : Tps H (upd H d u) := fun b xs r => by
  have hb : b ≠ d := by
    intro e
    subst e
    rcases r with r | ⟨o, r⟩
    · rw [h] at r
      cases r
    · rw [h] at r
      cases r
  rcases r with r | ⟨o, r⟩
  · exact .inl (by rw [upd_ne hb]; exact r)
  · exact .inr ⟨o, by rw [upd_ne hb]; exact r⟩
theorem row_ok {L : LandD} {rows : List (List (Option Int))} (ok : LandOk L) (ro : RowsOk rows L.links) {i : Nat} {l : Lk} {row : List (Option Int)} (h1 : L.links[i]? = some l) (h2 : rows[i]? = some row) : row.length = L.winds.length ∧ ∀ n, some n ∈ row → 1 ≤ n := by
  have lk := ok.lk l (List.mem_of_getElem? h1)
  have e := ro.row i row l h2 h1
  refine ⟨by rw [e, lk.ts], fun n hn => ?_⟩
  obtain ⟨j, hj, hj2⟩ := List.mem_iff_getElem.mp hn
  have hj3 : row[j]? = some (some n) := by rw [List.getElem?_eq_getElem hj, hj2]
  have hjt : l.ts[j]? = some (l.ts[j]'(by omega)) := List.getElem?_eq_getElem _
  have q := ro.num i row l h2 h1 j _ _ hj3 hjt
  cases e3 : l.ts[j]'(by omega) with
  | none =>
    rw [e3] at q
    exact absurd q id
  | some lm =>
    obtain ⟨lo, hi⟩ := lm
    rw [e3] at q
    have b := lk.bd lo hi (by rw [← e3]; exact List.getElem_mem _)
    have : lo ≤ n := q.1
    omega
theorem spI_all {winds places : List Str} {links : List Lk} {rows : List (List (Option Int))} {wt : List (Int × Str)} {starts : List (Str × Int)} {B : List Str} {fo ws : List (Str × Int)} {p : Str} {n : Nat}
    (S : SpI winds places links rows wt starts B fo ws fun k q => q ≠ p ∨ k < n) (hn : links.length ≤ n) : SpI winds places links rows wt starts B fo ws fun _ _ => True :=
  ⟨S.nw, S.nf, S.dj, S.kw, S.kf, S.gw, S.gf, S.mon, S.sw, S.sf, S.st, fun i l row h1 h2 h3 t h4 _ => S.cl i l row h1 h2 h3 t h4 (.inr (Nat.lt_of_lt_of_le (List.getElem?_eq_some_iff.mp h1).1 hn))⟩
section
variable {P : Program} {w : World} {K : PySem.W.Frag} {mg : Str → Option Value} {base : Heap}
/-- the fire's question: land, weather, starts, breaks (all from minute 0 on) -/
structure FireQ (K : PySem.W.Frag) (H : Hp) (p : Addr) (L : LandD) (wv sv bv : V) (wt : List (Int × Str)) (starts : List (Str × Int)) (B : List Str) : Prop where
  land : LandAt K H p L
  ok : LandOk L
  wd : Dp K H wv (.list (wt.map wrD))
  wl : wt.length ≤ 500
  wa : ∀ s, 0 ≤ s → ∃ x, windAt wt s = some x ∧ x ∈ L.winds
  sd : Dp K H sv (.list (starts.map srD))
  sl : starts.length ≤ 900
  s0 : ∀ r ∈ starts, 0 ≤ r.2 ∧ r.1 ∈ L.places
  bd : Dp K H bv (.list ((B.map fun z => (z, (0 : Int))).map srD))
  bl : B.length ≤ 900
theorem fireQ_sm {H H' : Hp} (e : Same H H') {p : Addr} {L : LandD} {wv sv bv : V} {wt : List (Int × Str)} {starts : List (Str × Int)} {B : List Str} (q : FireQ K H p L wv sv bv wt starts B) : FireQ K H' p L wv sv bv wt starts B :=
  ⟨land_sm e q.land, q.ok, dp_sm e _ _ q.wd, q.wl, q.wa, dp_sm e _ _ q.sd, q.sl, q.s0, dp_sm e _ _ q.bd, q.bl⟩
def spSpread (K : PySem.W.Frag) : Sp := fun vs H Q _ => ∃ (p : Addr) (L : LandD) (wv sv bv nv : V) (wt : List (Int × Str)) (starts : List (Str × Int)) (B : List Str) (rows : List (List (Option Int))), vs = [.ref p, wv, sv, bv, nv] ∧ FireQ K H p L wv sv bv wt starts B ∧
  Dp K H nv (.tuple (rows.map rowD)) ∧ RowsOk rows L.links ∧ ∀ (q : Addr) (H' : Hp) (fo : List (Str × Int)), Same H H' → H' q = some (.dK (kD fo)) → FireR L.winds L.places L.links rows wt starts B fo → Q (.ref q) H'
abbrev nmSpread : List Str := ["land", "weather", "starts", "breaks", "numbers", "broken", "waiting", "place", "minute", "found", "link", "row", "end"]
theorem scSpread : FnScope nmSpread ["land", "weather", "starts", "breaks", "numbers"] (defScope sSpread) := ⟨rfl, rfl, rfl, by decide +kernel, rfl, by decide +kernel, by decide +kernel⟩
theorem ok_spread (T : Txt K mg) : Has P w K mg base 3 "spread" ["land", "weather", "starts", "breaks", "numbers"] (spSpread K) := by
  have Gl : Has P w K mg base 1 "least_minutes" ["rows"] (spLeastMinutes K) := ok_least_minutes T
  have Gc : Has P w K mg base 2 "caught" ["land", "weather", "row", "minute"] (spCaught K) := ok_caught T
  refine has_of T.dSpread T.gSpread scSpread (fun vs H Q E h => by obtain ⟨p, L, wv, sv, bv, nv, wt, starts, B, rows, rfl, _⟩ := h; rfl) (fun _ _ _ _ _ _ us hl => match us, hl with | [_, _, _, _, _], _ => rfl) fun cdv A outer s H vs Q E hr h => ?_
  obtain ⟨p, L, wv, sv, bv, nv, wt, starts, B, rows, rfl, F, hnv, ro, k⟩ := h
  have hu := hu_of hr
  obtain ⟨na, ns, rfl, hN, hns⟩ := dp_tup hnv
  have nlen : ns.length = rows.length := by rw [dpa_len hns, List.length_map]
  obtain ⟨dx, wd, pl, la, pa, hp, hwd, hpl, hl, hpa⟩ := id F.land
  obtain ⟨la', xs, el, hS, hd⟩ := dp_tup hl
  cases el
  have llen : xs.length = L.links.length := by rw [dpa_len hd, List.length_map]
  refine ⟨_, pss_cons (ps_set (i := 5) scSpread.nd rfl (.inl rfl) (pe_f Gl hr (by rfl) (pa_cons (pv 3) pa_nil)))
    (pss_cons (ps_set (i := 6) scSpread.nd rfl (.inl rfl) pe_dnewK)
    (pss_cons (ps_for PassesOwn.never rfl (pi_items (pe_lockV (pe_f Gl hr (by rfl) (pa_cons (pv 2) pa_nil)))) (pg_tup rfl (pgs_cons (pg_name (i := 7) scSpread.nd rfl (.inl rfl)) (pgs_cons (pg_name (i := 8) scSpread.nd rfl (.inl rfl)) pgs_nil)))
      (pss_one (ps_if (PW.pt (pw_or (pt_cmp (pc_dnotin hu (pv 7) (pv 5))) (pw_or1 (pt_cmpR op_lt (pv 8) (pe_dget hu (pv 5) (pv 7) (fun _ _ => rfl)) (nomark _))))) (pss_one (ps_dput hu (pv 6) (pv 7) (pv 8) rfl)) pss_nil)))
    (pss_cons (ps_set (i := 9) scSpread.nd rfl (.inl rfl) pe_dnewK)
    (pss_cons (ps_while PassesOwn.never (pt_truth (pv 6) (by intro _; rfl))
      (pss_cons (ps_asg (pe_lock (pe_callB (cr_minPr rfl hr.units) (by rfl) T.fMin (by decide +kernel) (pa_cons (pe_lc (own := [("place", 7), ("minute", 8)]) (g := gTup K 2 (gCons (gName 7) (gCons (gName 8) gNil))) (by rfl) scSpread.nd (pi_items (pv 6)) (blkOk_by (N := nmSpread) (sc := defScope sSpread) (by decide +kernel))
          (fun _ _ _ _ _ => pg_tup rfl (pgs_cons (pg_name (i := 7) scSpread.nd rfl (Or.inl rfl)) (pgs_cons (pg_name (i := 8) scSpread.nd rfl (Or.inl rfl)) pgs_nil))) (fun _ _ _ _ _ => pts_nil) (fun _ _ _ _ _ => pe_tup (pa_cons (pv 8) (pa_cons (pv 7) pa_nil)))) pa_nil)))
        (pg_tup rfl (pgs_cons (pg_name (i := 8) scSpread.nd rfl (.inl rfl)) (pgs_cons (pg_name (i := 7) scSpread.nd rfl (.inl rfl)) pgs_nil))))
      (pss_cons (ps_expr (pe_dpop1 (pv 6) (pv 7) ⟨rfl, rfl, rfl, rfl⟩))
      (pss_cons (ps_dput hu (pv 9) (pv 7) (pv 8) rfl)
      (pss_one (ps_for PassesOwn.never rfl (pi_zipA (by rfl) T.fZip (pa_cons (pe_fld (pv 0) rfl) (pa_cons (pv 4) pa_nil))) (pg_tup rfl (pgs_cons (pg_name (i := 10) scSpread.nd rfl (.inl rfl)) (pgs_cons (pg_name (i := 11) scSpread.nd rfl (.inl rfl)) pgs_nil)))
        (pss_cons (ps_set (i := 12) scSpread.nd rfl (.inl rfl) (pe_ifExp (PW.pt (pw_and (pt_cmpR op_eq (pe_ix ix_tup (pv 10) pe_int (fun _ _ => rfl)) (pv 7) (nomark _)) (pw_and1 (pt_cmp (pc_dnotin hu (pe_ix ix_tup (pv 10) pe_int (fun _ _ => rfl)) (pv 9))))))
            (pe_f Gc hr (by rfl) (pa_cons (pv 0) (pa_cons (pv 1) (pa_cons (pv 11) (pa_cons (pv 8) pa_nil))))) pe_non))
        (pss_one (ps_if (PW.pt (pw_and (pt_cmp (pc_notN (pv 12))) (pw_and1 (PW.pt (pw_or (pt_cmp (pc_dnotin hu (pe_ix ix_tup (pv 10) pe_int (fun _ _ => rfl)) (pv 5))) (pw_or1 (pt_cmpR op_lt (pv 12) (pe_dget hu (pv 5) (pe_ix ix_tup (pv 10) pe_int (fun _ _ => rfl)) (fun _ _ => rfl)) (nomark _))))))))
          (pss_one (ps_dput hu (pv 6) (pe_ix ix_tup (pv 10) pe_int (fun _ _ => rfl)) (pe_callB (call_min2 rfl) (by rfl) T.fMin (by decide +kernel) (pa_cons (pv 12) (pa_cons (pe_dget2 hu (pv 6) (pe_ix ix_tup (pv 10) pe_int (fun _ _ => rfl)) (pv 12) ⟨rfl, rfl, rfl, rfl⟩) pa_nil))) rfl)) pss_nil)))))))))
    (pss_one (ps_ret (pv 9))))))), ?_⟩
  -- broken = least_minutes(breaks)
  refine ⟨_, rfl, bv, _, rfl, F.bd, by rw [List.length_map]; exact F.bl, fun b H1 fb hb0 s1 hb lmb => ?_⟩
  -- waiting = {}
  intro wa hwa
  have s2 : Same H1 (upd H1 wa (.dK [])) := sm_up hwa
  have hwaH : H wa = none := s1.free hwa
  have hbw : b ≠ wa := ne_of_none hb hwa
  -- for place, minute in least_minutes(starts).items()
  refine ⟨_, rfl, sv, starts, rfl, dp_sm (s1.trans s2) _ _ F.sd, F.sl, fun ds H2 fs hds0 s3 hds lms => ⟨ds, _, rfl, hds, trivial, fun od => ⟨ds, od, _, rfl, upd_same, ?_⟩⟩⟩
  have hdsH : H ds = none := (s1.trans s2).free hds0
  have hdw : ds ≠ wa := by
    intro e
    rw [e, upd_same] at hds0
    cases hds0
  have hdb : ds ≠ b := by
    intro e
    rw [e, upd_ne hbw, hb] at hds0
    cases hds0
  refine for_it walk_items (fun i σ H' => Same H H' ∧ (∃ u7 u8, σ = [some (.ref p), some wv, some sv, some bv, some (.ref na), some (.ref b), some (.ref wa), u7, u8, none, none, none, none]) ∧ H' b = some (.dK (kD fb)) ∧ H' ds = some (.frz od (.dK (kD fs))) ∧
      H' wa = some (.dK (kD ((fs.take i).filter fun r => decide (r.1 ∉ B))))) ?_ (fun i σ H' _ q => q.2.2.2.1) ?_ ?_
  · refine ⟨sm_mut ((s1.trans s2).trans s3) hdsH, ⟨none, none, rfl⟩, ?_, upd_same, ?_⟩
    · rw [upd_ne hdb.symm]
      exact s3 _ _ (by rw [upd_ne hbw]; exact hb)
    · rw [upd_ne hdw.symm]
      exact s3 _ _ upd_same
  · rintro i x σ Ha Hb hi ⟨t1, ⟨u7, u8, rfl⟩, t2, t3, t4⟩ ⟨Tp, x1, x2, rfl, hT, rfl, hx1, hx2⟩
    obtain ⟨r, hr1, rfl, rfl⟩ := kD_at hx1 hx2
    have e1 : Same Ha (upd Ha Tp (.tup [.str r.1, .int r.2])) := sm_up hT
    have g0 := (F.s0 r (lms.of r (List.mem_of_getElem? hr1))).1
    refine ⟨Tp, _, rfl, SqT.of upd_same, rfl, _, _, rfl, _, _, rfl, rfl, ?_⟩
    refine ⟨_, rfl, _, rfl, b, _, rfl, dgS (e1 _ _ t2) r.1, _, rfl, ?_⟩
    have hfl : ((fs.take i).filter fun r => decide (r.1 ∉ B)).length ≤ 900 := by
      refine Nat.le_trans (List.length_filter_le _ _) ?_
      rw [List.length_take]
      have := lms.len
      have := F.sl
      omega
    by_cases hB : r.1 ∈ B
    · rw [(brk lmb r.1).1 hB]
      refine iteF ⟨_, rfl, _, rfl, _, rfl, b, V.int 0, rfl, ?_, r.2, 0, rfl, rfl, false, ?_, iteF ?_⟩
      · have q := dgS (e1 _ _ t2) r.1
        rw [(brk lmb r.1).1 hB] at q
        exact q
      · show V.bl (decide (r.2 < 0)) = V.bl false
        rw [decide_eq_false (by omega)]
      · refine ⟨t1.trans e1, ⟨_, _, rfl⟩, e1 _ _ t2, e1 _ _ t3, ?_⟩
        rw [take_snoc hr1, List.filter_append]
        have q : ([r].filter fun r => decide (r.1 ∉ B)) = [] := by simp [hB]
        rw [q, List.append_nil]
        exact e1 _ _ t4
    · rw [(brk lmb r.1).2 hB]
      refine iteT (iteT ?_)
      refine ⟨_, rfl, _, rfl, _, rfl, wa, _, rfl, DPut.k (k := Sum.inr r.1) (e1 _ _ t4) (small1000 (by unfold kD; rw [List.length_map]; omega)), ?_⟩
      refine ⟨sm_mut (t1.trans e1) hwaH, ⟨_, _, rfl⟩, by rw [upd_ne hbw]; exact e1 _ _ t2, by rw [upd_ne hdw]; exact e1 _ _ t3, ?_⟩
      rw [upd_same]
      refine congrArg (fun l => some (HO.dK l)) (Eq.trans (put_kD _ _ _) ?_)
      rw [putS_new, take_snoc hr1, List.filter_append]
      · congr 1
        simp [hB]
      · intro hm
        obtain ⟨r', h1, h2⟩ := List.mem_map.mp hm
        obtain ⟨j, hj1, hj2⟩ := List.mem_iff_getElem.mp (List.mem_filter.mp h1).1
        rw [List.length_take] at hj1
        rw [List.getElem_take] at hj2
        have a1 : (fs.map (·.1))[j]? = some r.1 := by
          rw [List.getElem?_map, List.getElem?_eq_getElem (by omega), hj2]
          show some r'.1 = some r.1
          rw [h2]
        have a2 : (fs.map (·.1))[i]? = some r.1 := by
          rw [List.getElem?_map, hr1]
          rfl
        have := nd_ix lms.nd a1 a2
        omega
  -- found = {}
  · rintro σ H3 ⟨t1, ⟨u7, u8, rfl⟩, t2, t3, t4⟩
    have kl : (kD fs).length = fs.length := by unfold kD; rw [List.length_map]
    rw [kl, List.take_length] at t4
    intro fa hfa
    have hfaH : H fa = none := t1.free hfa
    have hfb : fa ≠ b := (ne_of_none t2 hfa).symm
    have hfw : fa ≠ wa := (ne_of_none t4 hfa).symm
    -- the invariant
    have S0 : SpI L.winds L.places L.links rows wt starts B [] (fs.filter fun r => decide (r.1 ∉ B)) fun _ _ => True := by
      have mem : ∀ r, r ∈ (fs.filter fun r => decide (r.1 ∉ B)) → r ∈ starts ∧ r.1 ∉ B := fun r hr => by
        obtain ⟨q1, q2⟩ := List.mem_filter.mp hr
        exact ⟨lms.of r q1, of_decide_eq_true q2⟩
      have ndw : ((fs.filter fun r => decide (r.1 ∉ B)).map (·.1)).Nodup := lms.nd.sublist (List.Sublist.map _ List.filter_sublist)
      refine ⟨ndw, List.nodup_nil, fun z hz => (nomatch hz), fun z hz => ?_, fun z hz => (nomatch hz), fun r hr => (F.s0 r (mem r hr).1).1, fun r hr => (nomatch hr), fun f hf => (nomatch hf), fun I hI r hr => hI.st r (mem r hr).1 (mem r hr).2,
        fun I hI r hr => (nomatch hr), fun r hr hb => ?_, fun i l row h1 h2 h3 t h4 => (nomatch h4)⟩
      · obtain ⟨r, h1, h2⟩ := List.mem_map.mp hz
        rw [← h2]
        exact (F.s0 r (mem r h1).1).2
      · obtain ⟨t, h1, h2⟩ := lms.le r hr
        exact ⟨t, .inr (mem_lookS ndw (List.mem_filter.mpr ⟨lookS_mem h1, decide_eq_true hb⟩)), h2⟩
    -- while waiting
    refine ⟨fun m σ H' => ∃ fo ws, m = L.places.length - fo.length ∧ fo.length ≤ L.places.length ∧ Same H H' ∧ (∃ u7 u8 u10 u11 u12, σ = [some (.ref p), some wv, some sv, some bv, some (.ref na), some (.ref b), some (.ref wa), u7, u8, some (.ref fa), u10, u11, u12]) ∧ H' b = some (.dK (kD fb)) ∧
        H' wa = some (.dK (kD ws)) ∧ H' fa = some (.dK (kD fo)) ∧ SpI L.winds L.places L.links rows wt starts B fo ws fun _ _ => True, ⟨_, [], _, rfl, Nat.zero_le _, sm_mut t1 hfaH, ⟨_, _, _, _, _, rfl⟩, by rw [upd_ne hfb.symm]; exact t2, by rw [upd_ne hfw.symm]; exact t4, upd_same, S0⟩, ?_⟩
    rintro m σ H4 ⟨fo, ws, rfl, hfo, v1, ⟨u7', u8', u10, u11, u12, rfl⟩, v2, v3, v4, S⟩
    refine ⟨_, rfl, !(kD ws).isEmpty, .inr (.inr ⟨_, v3, rfl⟩), ?_⟩
    cases hws : ws with
    | nil =>
      rw [hws] at S
      refine iteF ⟨_, rfl, ?_⟩
      exact k fa H4 fo v1 v4 (spI_end S)
    | cons w0 wr =>
      refine iteT ?_
      have wsne : ws ≠ [] := by rw [hws]; exact List.cons_ne_nil _ _
      have wsl : ws.length ≤ L.places.length := by
        have := nodup_len S.nw S.kw
        rw [List.length_map] at this
        exact this
      have pl24 := F.ok.pn
      -- minute, place = min([...])
      refine ⟨fun σ' H' => ∃ fo' ws', fo'.length = fo.length + 1 ∧ fo'.length ≤ L.places.length ∧ Same H H' ∧ (∃ u7 u8 u10 u11 u12, σ' = [some (.ref p), some wv, some sv, some bv, some (.ref na), some (.ref b), some (.ref wa), u7, u8, some (.ref fa), u10, u11, u12]) ∧ H' b = some (.dK (kD fb)) ∧
        H' wa = some (.dK (kD ws')) ∧ H' fa = some (.dK (kD fo')) ∧ SpI L.winds L.places L.links rows wt starts B fo' ws' fun _ _ => True, fun σ' H' ⟨fo', ws', e1, e2, e3, e4, e5, e6, e7, e8⟩ => ⟨_, by omega, fo', ws', rfl, e2, e3, e4, e5, e6, e7, e8⟩, ?_⟩
      refine ⟨wa, _, v3, trivial, fun ow => ?_⟩
      refine ⟨_, rfl, wa, ow, _, rfl, upd_same, fun D hD => lc_data (K := K) walk_items hD (fun i => (ws.take i).map fun r => wrD (r.2, r.1)) rfl (fun i hi => ?_) (fun H' e => e _ _ upd_same) ?_ ?_⟩
      · rw [List.length_map, List.length_take]
        exact small1000 (by omega)
      · rintro i x Ha Hb N hi e1 ⟨Tp, x1, x2, rfl, hT, rfl, hx1, hx2⟩ kY kN
        obtain ⟨r, hr1, rfl, rfl⟩ := kD_at hx1 hx2
        have e2 : Same Ha (upd Ha Tp (.tup [.str r.1, .int r.2])) := sm_up hT
        refine ⟨Tp, _, rfl, SqT.of upd_same, rfl, _, _, rfl, _, _, rfl, rfl, rfl, _, rfl, _, rfl, (by show 2 ≤ sizeLine; decide), fun q hq => ?_⟩
        refine kY _ _ (wrD (r.2, r.1)) (sm_new e2 hq) (.tup (SqT.of upd_same) (.cons (.int _) (.cons (.str _) .nil))) (nl_wr _) ?_
        rw [take_snoc hr1, List.map_append]
        rfl
      · intro Ha e1 hls
        obtain ⟨acc, hA, hdp, _⟩ := hls
        have kl2 : (kD ws).length = ws.length := by unfold kD; rw [List.length_map]
        rw [kl2, List.take_length] at hdp
        refine ⟨D, acc, ws.map fun r => (r.2, r.1), rfl, SqL.of hA, by rw [List.map_map]; exact hdp, by rw [hws]; exact List.cons_ne_nil _ _, fun x r0 hr0 hmin hx => ?_⟩
        obtain ⟨r, hrm, rfl⟩ := List.mem_map.mp hr0
        have hwa4 : Ha wa = some (.frz ow (.dK (kD ws))) := e1 _ _ upd_same
        refine ⟨hwa4, ?_⟩
        have tp : Tps Ha (upd Ha wa (.dK (kD ws))) := tps_unl hwa4 _
        obtain ⟨tx, y1, y2, rfl, htx, hy1, hy2⟩ := dp_tup2 (dp_tps tp _ _ (nl_wr _) hx)
        obtain rfl := dp_int hy1
        obtain rfl := dp_str hy2
        have least : ∀ q ∈ ws, r.2 ≤ q.2 := fun q hq => hmin (q.2, q.1) (List.mem_map.mpr ⟨q, hq, rfl⟩)
        have hrm' : (r.1, r.2) ∈ ws := hrm
        obtain ⟨S1, fm, fl, lp⟩ := spI_pop S hrm' least
        have v5 : Same H (upd Ha wa (.dK (kD ws))) := sm_mut ((sm_mut v1 hwaH).trans e1) hwaH
        have hHb : (upd Ha wa (.dK (kD ws))) b = some (.dK (kD fb)) := by
          rw [upd_ne hbw]
          exact e1 _ _ (by rw [upd_ne hbw]; exact v2)
        have hHf : (upd Ha wa (.dK (kD ws))) fa = some (.dK (kD fo)) := by
          rw [upd_ne hfw]
          exact e1 _ _ (by rw [upd_ne hfw]; exact v4)
        have fo1l : (putS fo r.1 r.2).length ≤ L.places.length := by
          have := nodup_len S1.nf S1.kf
          rw [List.length_map] at this
          exact this
        refine ⟨tx, _, rfl, htx, rfl, _, _, rfl, _, _, rfl, rfl, ?_⟩
        -- waiting.pop(place); found[place] = minute
        refine ⟨_, rfl, wa, rfl, .inl ⟨_, .inl upd_same⟩, _, rfl, kD ws, Sum.inr r.1, .int r.2, upd_same, rfl, by rw [val_kD, mem_lookS S.nw hrm']; rfl, ?_⟩
        refine ⟨_, rfl, _, rfl, _, rfl, fa, _, rfl, DPut.k (k := Sum.inr r.1) (by rw [upd_ne hfw]; exact hHf) (small1000 (by unfold kD; rw [List.length_map]; omega)), ?_⟩
        have v6 : Same H (upd (upd (upd Ha wa (.dK (kD ws))) wa (.dK (dropK (kD ws) (Sum.inr r.1)))) fa (.dK (putK (kD fo) (Sum.inr r.1) (.int r.2)))) := sm_mut (sm_mut v5 hwaH) hfaH
        -- for link, row in zip(land.links, numbers)
        refine ⟨_, rfl, p, CL K, dx, _, _, rfl, v6 _ _ hp, T.cl, T.nLinks, lf_links _ _ _ _, _, rfl, la, na, xs, ns, rfl, .inr ⟨sm_tup v6 hS, sm_tup v6 hN, for_it (walk_zipU (n := xs.length) (Nat.le_refl _) (by rw [nlen, llen, ro.len]; exact Nat.le_refl _) (.inl (Nat.le_refl _)))
          (fun i σ' H' => Same H H' ∧ (∃ u10 u11 u12, σ' = [some (.ref p), some wv, some sv, some bv, some (.ref na), some (.ref b), some (.ref wa), some (.str r.1), some (.int r.2), some (.ref fa), u10, u11, u12]) ∧ H' b = some (.dK (kD fb)) ∧
            H' fa = some (.dK (kD (putS fo r.1 r.2))) ∧ ∃ ws', H' wa = some (.dK (kD ws')) ∧ SpI L.winds L.places L.links rows wt starts B (putS fo r.1 r.2) ws' fun k q => q ≠ r.1 ∨ k < i) ?_ (fun i σ' H' _ q => ⟨sm_tup q.1 hS, sm_tup q.1 hN⟩) ?_ ?_⟩⟩
        · refine ⟨v6, ⟨_, _, _, rfl⟩, ?_, ?_, dropS ws r.1, ?_, S1⟩
          · rw [upd_ne hfb.symm, upd_ne hbw]
            exact hHb
          · rw [upd_same]
            exact congrArg (fun l => some (HO.dK l)) (put_kD _ _ _)
          · rw [upd_ne hfw.symm, upd_same]
            exact congrArg (fun l => some (HO.dK l)) (drop_kD _ _)
        · rintro i x σ' Hc Hd hi ⟨q1, ⟨a10, a11, a12, rfl⟩, q2, q3, ws', q4, S2⟩ ⟨Tp, x1, x2, rfl, hT, rfl, hx1, hx2⟩
          have e2 : Same Hc (upd Hc Tp (.tup [x1, x2])) := sm_up hT
          have e3 := q1.trans e2
          obtain ⟨d1, g1, g2⟩ := dpa_get hd hx1
          obtain ⟨lk, g3, rfl⟩ := get_map g1
          obtain ⟨d2, g4, g5⟩ := dpa_get hns hx2
          obtain ⟨row, g6, rfl⟩ := get_map g4
          obtain ⟨c, zs, rfl, hzs, hys⟩ := dp_tup (dp_sm e3 _ _ g2)
          obtain ⟨y1, y2, y3, y4, rfl, _, hy2, hy3, _⟩ := dpa_4 hys
          obtain rfl := dp_str hy2
          obtain rfl := dp_str hy3
          obtain ⟨rowl, row1⟩ := row_ok F.ok ro g3 g6
          have lkok := F.ok.lk lk (List.mem_of_getElem? g3)
          have ws'l : ws'.length ≤ L.places.length := by
            have := nodup_len S2.nw S2.kw
            rw [List.length_map] at this
            exact this
          refine ⟨Tp, _, rfl, SqT.of upd_same, rfl, _, _, rfl, _, _, rfl, rfl, ?_⟩
          refine ⟨_, rfl, c, _, 1, _, rfl, rfl, hzs, rfl, _, rfl, rfl, _, rfl, ?_⟩
          by_cases h1 : lk.one = r.1
          · have ed : decide (V.str lk.one = V.str r.1) = true := decide_eq_true (by rw [h1])
            refine ite2 (fun _ => ?_) (fun z => absurd ed z)
            refine ⟨_, rfl, c, _, 2, _, rfl, rfl, hzs, rfl, _, rfl, fa, _, rfl, dgS (e2 _ _ q3) lk.oth, _, rfl, ?_⟩
            by_cases h2 : lk.oth ∈ (putS fo r.1 r.2).map (·.1)
            · obtain ⟨t', ht'⟩ := Option.isSome_iff_exists.mp (lookS_key.mpr h2)
              rw [ht']
              refine iteF ?_
              refine ⟨_, rfl, false, rfl, iteF (iteF ?_)⟩
              refine ⟨e3, ⟨_, _, _, rfl⟩, e2 _ _ q2, e2 _ _ q3, ws', e2 _ _ q4, spI_skip (m := r.2) S2 g3 g6 fun _ _ t ht s hs j x n w1 w2 w3 => ⟨t', .inl ht', ?_⟩⟩
              have b1 := fm _ (lookS_mem ht')
              have b2 := row1 n (List.mem_of_getElem? w3)
              rw [lp] at ht
              cases ht
              have b3 : r.2 ≤ s := by
                rcases List.mem_cons.mp hs with e | e
                · omega
                · obtain ⟨r', e1, e2⟩ := List.mem_map.mp e
                  have := of_decide_eq_true (List.mem_filter.mp e1).2
                  omega
              have b1' : t' ≤ r.2 := b1
              omega
            · rw [lookS_none h2]
              refine iteT ?_
              have gr := S2.gf _ (lookS_mem lp)
              have gr' : 0 ≤ r.2 := gr
              refine ⟨_, rfl, _, rfl, _, rfl, _, rfl, p, L, wv, x2, wt, row, r.2, rfl, land_sm e3 F.land, F.ok, dp_sm e3 _ _ F.wd, F.wl, fun s hs => F.wa s (by omega), dp_sm e3 _ _ g5, rowl, row1, fun H5 re s5 cr => ?_⟩
              have e6 := e2.trans s5
              have e7 := q1.trans e6
              cases re with
              | none =>
                refine ⟨_, rfl, false, rfl, iteF (iteF ?_)⟩
                refine ⟨e7, ⟨_, _, _, rfl⟩, e6 _ _ q2, e6 _ _ q3, ws', e6 _ _ q4, spI_skip (m := r.2) S2 g3 g6 fun _ _ t ht s hs j x n w1 w2 w3 => ?_⟩
                rw [lp] at ht
                cases ht
                obtain ⟨e, he, _⟩ := cr.le s hs j x n w1 w2 w3
                cases he
              | some e =>
                obtain ⟨ge, gn⟩ := cr.gt e rfl
                refine ⟨_, rfl, true, rfl, iteT ?_⟩
                refine ⟨_, rfl, c, _, 2, _, rfl, rfl, sm_tup s5 hzs, rfl, _, rfl, b, _, rfl, dgS (e6 _ _ q2) lk.oth, _, rfl, ?_⟩
                by_cases hB : lk.oth ∈ B
                · rw [(brk lmb lk.oth).1 hB]
                  refine iteF ⟨_, rfl, _, rfl, _, rfl, c, _, 2, _, rfl, rfl, sm_tup s5 hzs, rfl, b, V.int 0, rfl, ?_, e, 0, rfl, rfl, false, ?_, iteF ?_⟩
                  · have q := dgS (e6 _ _ q2) lk.oth
                    rw [(brk lmb lk.oth).1 hB] at q
                    exact q
                  · show V.bl (decide (e < 0)) = V.bl false
                    rw [decide_eq_false (by omega)]
                  · exact ⟨e7, ⟨_, _, _, rfl⟩, e6 _ _ q2, e6 _ _ q3, ws', e6 _ _ q4, spI_skip (m := r.2) S2 g3 g6 fun _ hnB => absurd hB hnB⟩
                · rw [(brk lmb lk.oth).2 hB]
                  refine iteT (iteT ?_)
                  refine ⟨_, rfl, _, rfl, wa, rfl, .inl ⟨_, .inl (e6 _ _ q4)⟩, _, rfl, c, _, 2, _, rfl, rfl, sm_tup s5 hzs, rfl, _, rfl, _, dgS (e6 _ _ q4) lk.oth, e, (lookS ws' lk.oth).getD e, ?_, ?_⟩
                  · cases lookS ws' lk.oth <;> rfl
                  · refine ⟨_, rfl, _, rfl, c, _, 2, _, rfl, rfl, sm_tup s5 hzs, rfl, wa, _, rfl, DPut.k (k := Sum.inr lk.oth) (e6 _ _ q4) (small1000 (by unfold kD; rw [List.length_map]; omega)), ?_⟩
                    refine ⟨sm_mut e7 hwaH, ⟨_, _, _, rfl⟩, by rw [upd_ne hbw]; exact e6 _ _ q2, by rw [upd_ne hfw]; exact e6 _ _ q3, putS ws' lk.oth (if (lookS ws' lk.oth).getD e < e then (lookS ws' lk.oth).getD e else e), ?_, ?_⟩
                    · rw [upd_same]
                      exact congrArg (fun l => some (HO.dK l)) (put_kD _ _ _)
                    · refine spI_put S2 g3 g6 fm lp h1 h2 hB lkok.oth ge gn fun s hs j x n w1 w2 w3 => ?_
                      obtain ⟨e', he, hle⟩ := cr.le s hs j x n w1 w2 w3
                      cases he
                      exact hle
          · have ed : ¬ decide (V.str lk.one = V.str r.1) = true := fun z => h1 (V.str.inj (of_decide_eq_true z))
            refine ite2 (fun z => absurd z ed) (fun _ => ?_)
            refine iteF ?_
            refine ⟨_, rfl, false, rfl, iteF (iteF ?_)⟩
            exact ⟨e3, ⟨_, _, _, rfl⟩, e2 _ _ q2, e2 _ _ q3, ws', e2 _ _ q4, spI_skip (m := r.2) S2 g3 g6 fun hz => absurd hz h1⟩
        · rintro σ' Hc ⟨q1, ⟨a10, a11, a12, rfl⟩, q2, q3, ws', q4, S2⟩
          exact ⟨_, ws', fl, fo1l, q1, ⟨_, _, _, _, _, rfl⟩, q2, q4, q3, spI_all S2 (by omega)⟩
end
section
variable {P : Program} {w : World} {K : PySem.W.Frag} {mg : Str → Option Value} {base : Heap}
/-! ### check_fire, told, burning, fastest, slowest -/
def spCheckFire (K : PySem.W.Frag) : Sp := fun vs H Q _ => ∃ (p : Addr) (L : LandD) (wv sv bv : V) (wt : List (Int × Str)) (starts : List (Str × Int)) (B : List Str), vs = [.ref p, wv, sv, bv] ∧ FireQ K H p L wv sv bv wt starts B ∧
  WOk wt ∧ (∀ r ∈ wt, r.2 ∈ L.winds) ∧ (∀ z ∈ B, z ∈ L.places) ∧ ∀ H', Same H H' → Q .non H'
theorem scCheckFire : FnScope ["land", "weather", "starts", "breaks"] ["land", "weather", "starts", "breaks"] (defScope sCheckFire) := ⟨rfl, rfl, rfl, by decide +kernel, rfl, by decide +kernel, by decide +kernel⟩
theorem ok_check_fire (T : Txt K mg) : Has P w K mg base 3 "check_fire" ["land", "weather", "starts", "breaks"] (spCheckFire K) := by
  have G1 : Has P w K mg base 2 "check_winds" ["land", "weather"] (spCheckWinds K) := ok_check_winds T
  have G2 : Has P w K mg base 2 "check_rows" ["land", "rows"] (spCheckRows K) := ok_check_rows T
  have G3 : Has P w K mg base 1 "check_changes" ["weather"] (spCheckChanges K) := ok_check_changes T
  refine has_of T.dCheckFire T.gCheckFire scCheckFire (fun vs H Q E h => by obtain ⟨p, L, wv, sv, bv, wt, starts, B, rfl, _⟩ := h; rfl) (fun _ _ _ _ _ _ us hl => match us, hl with | [_, _, _, _], _ => rfl) fun cdv A outer s H vs Q E hr h => ?_
  obtain ⟨p, L, wv, sv, bv, wt, starts, B, rfl, F, hw, hm, hb, k⟩ := h
  refine ⟨_, pss_cons (ps_expr (pe_f G1 hr (by rfl) (pa_cons (pv 0) (pa_cons (pv 1) pa_nil)))) (pss_cons (ps_expr (pe_f G2 hr (by rfl) (pa_cons (pv 0) (pa_cons (pv 2) pa_nil))))
    (pss_cons (ps_expr (pe_f G2 hr (by rfl) (pa_cons (pv 0) (pa_cons (pv 3) pa_nil)))) (pss_one (ps_expr (pe_f G3 hr (by rfl) (pa_cons (pv 1) pa_nil)))))), ?_⟩
  refine ⟨_, rfl, _, rfl, p, L, wv, wt, rfl, F.land, F.wd, hm, ?_⟩
  refine ⟨_, rfl, _, rfl, p, L, sv, starts, rfl, F.land, F.sd, fun r hr => (F.s0 r hr).2, ?_⟩
  refine ⟨_, rfl, _, rfl, p, L, bv, _, rfl, F.land, F.bd, fun r hr => ?_, ?_⟩
  · obtain ⟨z, hz, rfl⟩ := List.mem_map.mp hr
    exact hb z hz
  · exact ⟨_, rfl, wv, wt, rfl, F.wd, hw, fun H' s1 => k H' s1⟩
def toldD (places : List Str) (fo : List (Str × Int)) : PyData := .list (places.map fun z => .tuple [.str z, oiD (lookS fo z)])
theorem nl_told (z : Str) (o : Option Int) : nl (.tuple [.str z, oiD o]) = true := by simp [nl, nlA, nl_oi]
theorem dp_oi {K : PySem.W.Frag} {H : Hp} : ∀ o : Option Int, Dp K H (oiV o) (oiD o)
  | none => .non
  | some i => .int i
def spTold (K : PySem.W.Frag) : Sp := fun vs H Q _ => ∃ (p : Addr) (L : LandD) (q : Addr) (fo : List (Str × Int)), vs = [.ref p, .ref q] ∧ LandAt K H p L ∧ L.places.length ≤ 24 ∧ H q = some (.dK (kD fo)) ∧
  ∀ v H', Same H H' → Dp K H' v (toldD L.places fo) → Q v H'
theorem scTold : FnScope ["land", "found", "place"] ["land", "found"] (defScope sTold) := ⟨rfl, rfl, rfl, by decide +kernel, rfl, by decide +kernel, by decide +kernel⟩
theorem ok_told (T : Txt K mg) : Has P w K mg base 1 "told" ["land", "found"] (spTold K) := by
  refine has_of T.dTold T.gTold scTold (fun vs H Q E h => by obtain ⟨p, L, q, fo, rfl, _⟩ := h; rfl) (fun _ _ _ _ _ _ us hl => match us, hl with | [_, _], _ => rfl) fun cdv A outer s H vs Q E hr h => ?_
  obtain ⟨p, L, q, fo, rfl, hL, hn, hq, k⟩ := h
  have hu := hu_of hr
  obtain ⟨dx, w', pl, l, pa, hp, hw, hpl, hl, hpa⟩ := id hL
  refine ⟨_, pss_one (ps_ret (pe_lc (own := [("place", 2)]) (g := gName 2) (by rfl) scTold.nd (pi_tup (pe_fld (pv 0) rfl)) (blkOk_by (N := ["land", "found", "place"]) (sc := defScope sTold) (by decide +kernel))
    (fun _ _ _ _ _ => pg_name (i := 2) scTold.nd rfl (Or.inl rfl)) (fun _ _ _ _ _ => pts_nil)
    (fun _ _ _ _ _ => pe_tup (pa_cons (pv 2) (pa_cons (pe_dget1 hu (pv 1) (pv 2) ⟨rfl, rfl, rfl, rfl⟩) pa_nil))))), ?_⟩
  refine ⟨_, rfl, p, CL K, dx, _, _, rfl, hp, T.cl, T.nPlaces, lf_places _ _ _ _, pl, rfl, ⟨_, hpl⟩, fun D hD => lc_data (K := K) walk_tup hD (fun i => (L.places.take i).map fun z => .tuple [.str z, oiD (lookS fo z)]) rfl (fun i hi => ?_) (fun H' e => sm_tup e hpl) ?_ ?_⟩
  · rw [List.length_map, List.length_take]
    exact small1000 (by omega)
  · rintro i u H1 H2 N hi s1 ⟨rfl, hu⟩ kY kN
    obtain ⟨z, h3, rfl⟩ := get_map hu
    refine ⟨rfl, _, rfl, _, rfl, q, rfl, .inl ⟨_, .inl (s1 _ _ hq)⟩, _, rfl, _, dgS (s1 _ _ hq) z, (by show 2 ≤ sizeLine; decide), fun b hb => ?_⟩
    refine kY _ _ (.tuple [.str z, oiD (lookS fo z)]) (sm_up hb) (.tup (SqT.of upd_same) (.cons (.str _) (.cons ?_ .nil))) (nl_told _ _) ?_
    · cases lookS fo z with
      | none => exact .non
      | some i => exact .int i
    · rw [take_snoc h3, List.map_append]
      rfl
  · intro H1 s1 hls
    have e : (L.places.map V.str).length = L.places.length := List.length_map _
    rw [e, List.take_length] at hls
    exact k _ _ s1 (lsAt_dp hls)
/-- a fire's whole question -/
structure FireA (K : PySem.W.Frag) (H : Hp) (p : Addr) (L : LandD) (wv sv bv : V) (wt : List (Int × Str)) (starts : List (Str × Int)) (B : List Str) : Prop where
  q : FireQ K H p L wv sv bv wt starts B
  w : WOk wt
  wm : ∀ r ∈ wt, r.2 ∈ L.winds
  bm : ∀ z ∈ B, z ∈ L.places
theorem fireA_sm {H H' : Hp} (e : Same H H') {p : Addr} {L : LandD} {wv sv bv : V} {wt : List (Int × Str)} {starts : List (Str × Int)} {B : List Str} (f : FireA K H p L wv sv bv wt starts B) : FireA K H' p L wv sv bv wt starts B := ⟨fireQ_sm e f.q, f.w, f.wm, f.bm⟩
def spBurning (K : PySem.W.Frag) : Sp := fun vs H Q _ => ∃ (p : Addr) (L : LandD) (wv sv bv nv : V) (wt : List (Int × Str)) (starts : List (Str × Int)) (B : List Str) (rows : List (List (Option Int))), vs = [.ref p, wv, sv, bv, nv] ∧ FireA K H p L wv sv bv wt starts B ∧
  Dp K H nv (.tuple (rows.map rowD)) ∧ RowsOk rows L.links ∧ ∀ v H' fo, Same H H' → FireR L.winds L.places L.links rows wt starts B fo → Dp K H' v (toldD L.places fo) → Q v H'
theorem scBurning : FnScope ["land", "weather", "starts", "breaks", "numbers"] ["land", "weather", "starts", "breaks", "numbers"] (defScope sBurning) := ⟨rfl, rfl, rfl, by decide +kernel, rfl, by decide +kernel, by decide +kernel⟩
theorem ok_burning (T : Txt K mg) : Has P w K mg base 4 "burning" ["land", "weather", "starts", "breaks", "numbers"] (spBurning K) := by
  have G1 : Has P w K mg base 3 "check_fire" ["land", "weather", "starts", "breaks"] (spCheckFire K) := ok_check_fire T
  have G2 : Has P w K mg base 2 "check_numbers" ["land", "numbers"] (spCheckNumbers K) := ok_check_numbers T
  have G3 : Has P w K mg base 1 "told" ["land", "found"] (spTold K) := ok_told T
  have G4 : Has P w K mg base 3 "spread" ["land", "weather", "starts", "breaks", "numbers"] (spSpread K) := ok_spread T
  refine has_of T.dBurning T.gBurning scBurning (fun vs H Q E h => by obtain ⟨p, L, wv, sv, bv, nv, wt, starts, B, rows, rfl, _⟩ := h; rfl) (fun _ _ _ _ _ _ us hl => match us, hl with | [_, _, _, _, _], _ => rfl) fun cdv A outer s H vs Q E hr h => ?_
  obtain ⟨p, L, wv, sv, bv, nv, wt, starts, B, rows, rfl, F, hn, ro, k⟩ := h
  refine ⟨_, pss_cons (ps_expr (pe_f G1 hr (by rfl) (pa_cons (pv 0) (pa_cons (pv 1) (pa_cons (pv 2) (pa_cons (pv 3) pa_nil)))))) (pss_cons (ps_expr (pe_f G2 hr (by rfl) (pa_cons (pv 0) (pa_cons (pv 4) pa_nil))))
    (pss_one (ps_ret (pe_f G3 hr (by rfl) (pa_cons (pv 0) (pa_cons (pe_f G4 hr (by rfl) (pa_cons (pv 0) (pa_cons (pv 1) (pa_cons (pv 2) (pa_cons (pv 3) (pa_cons (pv 4) pa_nil)))))) pa_nil)))))), ?_⟩
  refine ⟨_, rfl, _, rfl, _, rfl, _, rfl, p, L, wv, sv, bv, wt, starts, B, rfl, F.q, F.w, F.wm, F.bm, fun H1 s1 => ?_⟩
  refine ⟨_, rfl, _, rfl, p, L, nv, rows, rfl, land_sm s1 F.q.land, F.q.ok, dp_sm s1 _ _ hn, ro, fun H2 s2 => ?_⟩
  have s3 := s1.trans s2
  refine ⟨_, rfl, _, rfl, _, rfl, _, rfl, _, rfl, _, rfl, p, L, wv, sv, bv, nv, wt, starts, B, rows, rfl, fireQ_sm s3 F.q, dp_sm s3 _ _ hn, ro, fun q H3 fo s4 hq hf => ?_⟩
  have s5 := s3.trans s4
  exact ⟨p, L, q, fo, rfl, land_sm s5 F.q.land, F.q.ok.pn, hq, fun v H4 s6 hv => k v H4 fo (s5.trans s6) hf hv⟩
theorem rowsOk_nums {L : LandD} (ok : LandOk L) (f : Int × Int → Int) (hf : ∀ l h, l ≤ h → l ≤ f (l, h) ∧ f (l, h) ≤ h) : RowsOk (numsOf f L.links) L.links := by
  have at_ : ∀ (i : Nat) (row : List (Option Int)) (l : Lk), (numsOf f L.links)[i]? = some row → L.links[i]? = some l → row = l.ts.map (Option.map f) := fun i row l h1 h2 => by
    obtain ⟨l', h3, rfl⟩ := get_map h1
    rw [h2] at h3
    cases h3
    rfl
  refine ⟨List.length_map _, fun i row l h1 h2 => by rw [at_ i row l h1 h2, List.length_map], fun i row l h1 h2 j o q h3 h4 => ?_⟩
  rw [at_ i row l h1 h2] at h3
  obtain ⟨q', h5, rfl⟩ := get_map h3
  rw [h4] at h5
  cases h5
  cases q with
  | none => exact trivial
  | some q =>
    obtain ⟨lo, hi⟩ := q
    have b := (ok.lk l (List.mem_of_getElem? h2)).bd lo hi (List.mem_of_getElem? h4)
    exact hf lo hi b.2.1
def spFire (K : PySem.W.Frag) (f : Int × Int → Int) : Sp := fun vs H Q _ => ∃ (p : Addr) (L : LandD) (wv sv bv : V) (wt : List (Int × Str)) (starts : List (Str × Int)) (B : List Str), vs = [.ref p, wv, sv, bv] ∧ FireA K H p L wv sv bv wt starts B ∧
  ∀ v H' fo, Same H H' → FireR L.winds L.places L.links (numsOf f L.links) wt starts B fo → Dp K H' v (toldD L.places fo) → Q v H'
theorem scFastest : FnScope ["land", "weather", "starts", "breaks"] ["land", "weather", "starts", "breaks"] (defScope sFastest) := ⟨rfl, rfl, rfl, by decide +kernel, rfl, by decide +kernel, by decide +kernel⟩
theorem scSlowest : FnScope ["land", "weather", "starts", "breaks"] ["land", "weather", "starts", "breaks"] (defScope sSlowest) := ⟨rfl, rfl, rfl, by decide +kernel, rfl, by decide +kernel, by decide +kernel⟩
theorem ok_fastest (T : Txt K mg) : Has P w K mg base 5 "fastest" ["land", "weather", "starts", "breaks"] (spFire K Prod.fst) := by
  have G1 : Has P w K mg base 4 "burning" ["land", "weather", "starts", "breaks", "numbers"] (spBurning K) := ok_burning T
  have G2 : Has P w K mg base 1 "least_numbers" ["land"] (spNumbers K Prod.fst) := ok_least_numbers T
  refine has_of T.dFastest T.gFastest scFastest (fun vs H Q E h => by obtain ⟨p, L, wv, sv, bv, wt, starts, B, rfl, _⟩ := h; rfl) (fun _ _ _ _ _ _ us hl => match us, hl with | [_, _, _, _], _ => rfl) fun cdv A outer s H vs Q E hr h => ?_
  obtain ⟨p, L, wv, sv, bv, wt, starts, B, rfl, F, k⟩ := h
  refine ⟨_, pss_one (ps_ret (pe_f G1 hr (by rfl) (pa_cons (pv 0) (pa_cons (pv 1) (pa_cons (pv 2) (pa_cons (pv 3) (pa_cons (pe_f G2 hr (by rfl) (pa_cons (pv 0) pa_nil)) pa_nil))))))), ?_⟩
  refine ⟨_, rfl, _, rfl, _, rfl, _, rfl, _, rfl, p, L, rfl, F.q.land, F.q.ok, fun nv H1 s1 hn => ?_⟩
  exact ⟨p, L, wv, sv, bv, nv, wt, starts, B, _, rfl, fireA_sm s1 F, hn, rowsOk_nums F.q.ok Prod.fst fun l h e => ⟨Int.le_refl _, e⟩, fun v H2 fo s2 hf hv => k v H2 fo (s1.trans s2) hf hv⟩
theorem ok_slowest (T : Txt K mg) : Has P w K mg base 5 "slowest" ["land", "weather", "starts", "breaks"] (spFire K Prod.snd) := by
  have G1 : Has P w K mg base 4 "burning" ["land", "weather", "starts", "breaks", "numbers"] (spBurning K) := ok_burning T
  have G2 : Has P w K mg base 1 "most_numbers" ["land"] (spNumbers K Prod.snd) := ok_most_numbers T
  refine has_of T.dSlowest T.gSlowest scSlowest (fun vs H Q E h => by obtain ⟨p, L, wv, sv, bv, wt, starts, B, rfl, _⟩ := h; rfl) (fun _ _ _ _ _ _ us hl => match us, hl with | [_, _, _, _], _ => rfl) fun cdv A outer s H vs Q E hr h => ?_
  obtain ⟨p, L, wv, sv, bv, wt, starts, B, rfl, F, k⟩ := h
  refine ⟨_, pss_one (ps_ret (pe_f G1 hr (by rfl) (pa_cons (pv 0) (pa_cons (pv 1) (pa_cons (pv 2) (pa_cons (pv 3) (pa_cons (pe_f G2 hr (by rfl) (pa_cons (pv 0) pa_nil)) pa_nil))))))), ?_⟩
  refine ⟨_, rfl, _, rfl, _, rfl, _, rfl, _, rfl, p, L, rfl, F.q.land, F.q.ok, fun nv H1 s1 hn => ?_⟩
  exact ⟨p, L, wv, sv, bv, nv, wt, starts, B, _, rfl, fireA_sm s1 F, hn, rowsOk_nums F.q.ok Prod.snd fun l h e => ⟨e, Int.le_refl _⟩, fun v H2 fo s2 hf hv => k v H2 fo (s1.trans s2) hf hv⟩
end
/-! ### rules: y = {..} by a comprehension; a def with *rows called -/
section
variable {X : Cx}
theorem sw_dc {kx vx : Expr} {gs : List Comprehension} {sc : Scope} {ps pn : Pos} {y : Str} {ln : Nat} {en : Env} (fk : en.scope.kind = .function) (fy : en.scope.names.lookup y = some .local) (fl : (pn.line == ps.line) = true)
    (fa : (sc.names.any fun (n, k) => n == y && (k == .local || k == .cell)) = false) : swapsWith (.DictComp kx vx gs sc ps) (some (.Name y pn)) ln en = pure true := by
  have a1 : en.kindOf y = some .local := fy
  have a2 : en.blockKind = .function := by
    unfold Env.blockKind
    rw [fk]
    rfl
  unfold swapsWith
  simp only [a2, a1, fa, Expr.pos, fl]
  rfl
theorem ps_setDc {i : Nat} {y : Str} {py : Pos} {kx vx tgt itr : Expr} {cs : List Expr} {sc : Scope} {own : List (Str × Nat)} {pos spos : Pos} {wi : TI} {g : TG} {tt : TT} {tk tv : TE} (hc : X.calm = true) (hN : X.N.Nodup) (hy : X.N[i]? = some y) (hyl : X.env.scope.names.lookup y = some .local)
    (hsw : swapsWith (.DictComp kx vx [⟨tgt, itr, cs, 0⟩] sc pos) (some (.Name y py)) spos.line X.env = pure true) (hi : PI X tgt itr wi) (ok : BlkOk X.N X.env.scope sc own)
    (rg : ∀ (s : Shared) (H : Hp) (C : Addr) (cl : List (Str × Addr)) (fp : List Addr), PG (X.blk s H sc (compEnvC sc cl C X.env) fp) tgt g) (rt : ∀ (s : Shared) (H : Hp) (C : Addr) (cl : List (Str × Addr)) (fp : List Addr), PTs (X.blk s H sc (compEnvC sc cl C X.env) fp) cs tt)
    (rk : ∀ (s : Shared) (H : Hp) (C : Addr) (cl : List (Str × Addr)) (fp : List Addr), PE (X.blk s H sc (compEnvC sc cl C X.env) fp) kx tk)
    (rv : ∀ (s : Shared) (H : Hp) (C : Addr) (cl : List (Str × Addr)) (fp : List Addr), PE (X.blk s H sc (compEnvC sc cl C X.env) fp) vx tv) (hs : ∀ x, foldedSetIterable itr X.env x = pure x := by intro _; rfl) :
    PS X (.Assign [.Name y py] (.DictComp kx vx [⟨tgt, itr, cs, 0⟩] sc pos) spos) (tAsg (tDc wi g tt tk tv (own.map (·.2))) (gName i)) := by
  refine ⟨fun pins s σ H D I hw => ?_⟩
  rw [exec_Assign_Name_used _ _ _ _ hsw]
  refine wpAny_bind (wpAny_standAt (wpAny_bind ?_))
  show wpAny _ X.A (do let _ ← comprehension (.DictComp kx vx [⟨tgt, itr, cs, 0⟩] sc pos) sc X.env (firstIterPos [⟨tgt, itr, cs, 0⟩] pos) newDict false (eval itr X.env) (some (assign (.Name y py) X.env))) _ _ s
  have hw : tDc wi g tt tk tv (own.map (·.2)) σ H (fun x H1 => gName i x σ H1 D.nx) := hw
  refine wpAny_bind (thn (dc_core (Qf := fun _ t => SP X pins D .next t) hc hN I hi ok rg rt rk rv hs hw fun L C s1 m H1 I1 q hn f => ?_) fun _ t hq => wpAny_pure (wpAny_pure hq))
  show wpAny _ _ (assign (.Name y py) X.env (.ref L)) _ _ _
  refine wpAny_assign_Name (store_ok2 (v := V.ref L) I1 hN hy (.inl hyl) rfl (fun s2 I2 ⟨a, sb, ha⟩ => ?_) (.inr hyl))
  obtain ⟨z0, z1, z2, z3, z4, z5⟩ := f
  have ne : C ≠ a := by
    rcases ha with u | u
    · exact fun e => z1 (e.trans u)
    · exact fun e => z4 y a u e.symm
  exact ⟨m, hn.sameBut sb ne, fun h3 b3 => ⟨_, H1, I2.turned (t' := s2.toks) (fun b o hb e => (b3.2 b hb).trans e) z0 z1 z3 z4 z5, q⟩⟩
theorem pe_callR {k : Nat} {f : Addr} {sp : Sp} {x : Str} {e : Expr} {es : List Expr} {t : TA} {p pos : Pos} (F : FnR X.prog X.w X.K X.mg X.base CX0 k f sp) (hr : Room k X.A) (hk : PySem.W.keepIn X.K (.ref f) = true) (hg : Gl X x) (hm : X.mg x = some (.ref f)) (ha : PA X (e :: es) t)
    (hd : (x == ("__debug__" : Str)) = false := by decide) (he : starEach (e :: es) X.env = (false, eval e X.env) :: starEach es X.env := by rfl) (hpl : (backTo pos (starEach es X.env)).any (·.1) = false := by rfl) :
    PE X (.Call (.Name x p) (e :: es) [] pos) (fun σ H Q => t σ H fun vs H1 => sp vs H1 Q E0) := by
  refine ⟨fun pins s σ H Q I h => ?_⟩
  refine wpAny_Call_Name_kw (ld_glob I hg hm ?_ hd)
  exact PySem.W.callWith_K (h₀ := X.base) I.ok.mod.kin hk (thn (ha.run pos pins s σ H _ I h) fun us s1 ⟨vs, H1, I1, r, q⟩ => ⟨I1.kIn, wpAny_call (run_fnR F hr pass0 I1 r q)⟩) he hpl
end
/-- a dict comprehension, turn by turn -/
theorem dc_it {J : It} {n : Nat} {G : Hp → Prop} {Y : Nat → Hp → V → Hp → Prop} (w : Walk J n G Y) {g : TG} {tt : TT} {tk tv : TE} {vs : List Nat} {σ : L2.St} {H1 : Hp} {D : Addr} {Qd : Hp → Prop} (Pv : Nat → Hp → Prop) (h0 : Pv 0 (upd H1 D (.dK []))) (hG : ∀ i H, i ≤ n → Pv i H → G H)
    (hs : ∀ i x H H', i < n → Pv i H → Y i H x H' → g x (wipe σ vs) H' fun σ2 H2 => wipe σ2 vs = wipe σ vs ∧ tt σ2 H2 fun b H3 =>
      if b = true then tk σ2 H3 fun y H4 => tv σ2 H4 fun z H5 => ∃ kvs k, y = kV k ∧ H5 D = some (.dK kvs) ∧ kvs.length < sizeLine ∧ Pv (i + 1) (upd H5 D (.dK (putK kvs k z))) else Pv (i + 1) H3) (hd : ∀ H, Pv n H → Qd H) :
    ∃ W : Nat → Nat → Hp → Prop, (∃ m, W 0 m (upd H1 D (.dK []))) ∧ ∀ i m H, W i m H →
      (J.stop i H ∧ Qd H) ∨ (J.go i H ∧ ∃ Nx : Hp → Prop, (∀ H', Nx H' → ∃ m', m' < m ∧ W (i + 1) m' H') ∧ ∀ x H', J.yld i H x H' → g x (wipe σ vs) H' fun σ2 H2 => wipe σ2 vs = wipe σ vs ∧ tt σ2 H2 fun b H3 =>
        if b = true then tk σ2 H3 fun y H4 => tv σ2 H4 fun z H5 => ∃ kvs k, y = kV k ∧ H5 D = some (.dK kvs) ∧ kvs.length < sizeLine ∧ Nx (upd H5 D (.dK (putK kvs k z))) else Nx H3) := by
  refine ⟨fun i m H => m = n - i ∧ i ≤ n ∧ Pv i H, ⟨n, rfl, Nat.zero_le _, h0⟩, fun i m H ⟨em, hi, pv⟩ => ?_⟩
  subst em
  rcases Nat.lt_or_ge i n with lt | ge
  · exact .inr ⟨w.goes i H lt (hG i H hi pv), Pv (i + 1), fun H' nx => ⟨n - (i + 1), by omega, rfl, lt, nx⟩, fun x H' y => hs i x H H' lt pv (w.yields i H x H' lt (hG i H hi pv) y)⟩
  · obtain rfl : i = n := Nat.le_antisymm hi ge
    exact .inl ⟨w.stops H (hG i H hi pv), hd H pv⟩
section
variable {P : Program} {w : World} {K : PySem.W.Frag} {mg : Str → Option Value} {base : Heap}
/-! ### check_places -/
def strsD (ss : List Str) : PyData := .list (ss.map PyData.str)
def spCheckPlaces (K : PySem.W.Frag) : Sp := fun vs H Q _ => ∃ (p : Addr) (L : LandD) (q : Addr) (xs : List V) (sss : List (List Str)), vs = [.ref p, .ref q] ∧ LandAt K H p L ∧ SqT K H q xs ∧ DpAll K H xs (sss.map strsD) ∧ (∀ ss ∈ sss, ∀ z ∈ ss, z ∈ L.places) ∧ Q .non H
theorem scCheckPlaces : FnScope ["land", "rows", "row", "place"] ["land", "rows"] (defScope sCheckPlaces) := ⟨rfl, rfl, rfl, by decide +kernel, rfl, by decide +kernel, by decide +kernel⟩
theorem ok_check_places (T : Txt K mg) : FnR P w K mg base CX0 2 (He.ga K "check_places") (fun vs H Q E => ∃ (ws rest : List V), vs = ws ++ rest ∧ ws.length = ["land"].length ∧ rest.length ≤ sizeLine ∧ ∀ p, H p = none → spCheckPlaces K (ws ++ [V.ref p]) (upd H p (.tup rest)) Q E) := by
  have G : HasM P w K mg base 1 "check_place" ["self", "place"] (spCheckPlace K) := ok_check_place T
  obtain ⟨fd, F⟩ := T.dCheckPlaces
  obtain ⟨oc, od, dV, kV, doc, pm, an, cdv, ct, osl, rfl, lk, hcd, hD, _⟩ := F.ex
  obtain rfl : dV = .none := by
    rcases hD with ⟨_, e⟩ | ⟨e, _⟩
    · exact e
    · exact absurd rfl e
  refine StX.fn_star (ps := ["land"]) (pv := "rows") lk hcd scCheckPlaces StX.cxUp_none (StX.bind_star1 (B := fun l => bindArgs (PySem.W.fnOf "check_places" "check_places" (defArgs sCheckPlaces) (defBody sCheckPlaces) (defScope sCheckPlaces) .none kV doc pm an cdv ct) ⟨l, []⟩) (p1 := "land") (pv := "rows") (fun _ => rfl) (fun _ _ _ => rfl)) fun A outer s H vs Q E hr h => ?_
  obtain ⟨p, L, q, xs, sss, rfl, hL, hq, hd, hm, k⟩ := h
  suffices z : ∃ t, PSs (cxOf CX0 P w K mg base ["land", "rows", "row", "place"] "check_places" (defScope sCheckPlaces) (He.ga K "check_places") cdv A outer s H E).nox (defBody sCheckPlaces) t ∧ t { nx := fun _ H' => Q .non H', rt := Q } (start ["land", "rows", "row", "place"] [.ref p, .ref q]) H from by
    obtain ⟨t, h1, h2⟩ := z
    exact ⟨t, h1.nox, h2⟩
  refine ⟨_, pss_one (ps_for PassesOwn.never rfl (pi_tup (pv 1)) (pg_name (i := 2) scCheckPlaces.nd rfl (.inl rfl))
    (pss_one (ps_for PassesOwn.never rfl (pi_list (pv 2)) (pg_name (i := 3) scCheckPlaces.nd rfl (.inl rfl)) (pss_one (ps_expr (pe_m (pv 0) G hr (pa_cons (pv 3) pa_nil))))))), ?_⟩
  refine ⟨_, rfl, q, rfl, ⟨_, hq⟩, for_tup (K := K) (a := q) (xs := xs) (fun i σ H' => H' = H ∧ ∃ u1 u2, σ = [some (.ref p), some (.ref q), u1, u2]) ⟨rfl, none, none, rfl⟩ (fun i σ H' _ q' => by rw [q'.1]; exact hq) ?_ ?_⟩
  · rintro i x σ H' hx ⟨rfl, u1, u2, rfl⟩
    obtain ⟨d, h1, h2⟩ := dpa_get hd hx
    obtain ⟨ss, h3, rfl⟩ := get_map h1
    obtain ⟨a, ys, rfl, ha, hys⟩ := dp_lst h2
    have ey := dpa_ofStrs hys
    subst ey
    refine ⟨_, rfl, a, rfl, ⟨_, ha⟩, for_list (K := K) (a := a) (xs := ss.map V.str) (fun j σ H'' => H'' = H' ∧ ∃ u2, σ = [some (.ref p), some (.ref q), some (.ref a), u2]) ⟨rfl, u2, rfl⟩ (fun j σ H'' _ q' => by rw [q'.1]; exact ha) ?_ ?_⟩
    · rintro j y σ H'' hy ⟨rfl, v2, rfl⟩
      obtain ⟨z, h4, rfl⟩ := get_map hy
      obtain ⟨dx, w', pl, l, pa, hp, _⟩ := id hL
      refine ⟨_, rfl, p, dx, _, rfl, hp, lf_no (by decide +kernel) (by decide +kernel) (by decide +kernel) (by decide +kernel), _, rfl, p, L, z, rfl, hL, hm ss (List.mem_of_getElem? h3) z (List.mem_of_getElem? h4), ?_⟩
      exact ⟨rfl, _, rfl⟩
    · rintro σ H'' ⟨rfl, v2, rfl⟩
      exact ⟨rfl, _, _, rfl⟩
  · rintro σ H' ⟨rfl, _⟩
    exact k
end
/-! ### nexts -/
def opn (l : Lk) : Bool := l.ts.any Option.isSome
def nxStep (z : Str) (acc : List Str) (l : Lk) : List Str := if opn l = true ∧ l.one = z ∧ l.oth ∉ acc then acc ++ [l.oth] else acc
def nxL (links : List Lk) (z : Str) : List Str := links.foldl (nxStep z) []
theorem nxL_snoc (ls : List Lk) (l : Lk) (z : Str) : nxL (ls ++ [l]) z = nxStep z (nxL ls z) l := by
  unfold nxL
  rw [List.foldl_append]
  rfl
theorem nx_mem (z y : Str) : ∀ (ls : List Lk) (acc : List Str), y ∈ ls.foldl (nxStep z) acc ↔ y ∈ acc ∨ ∃ l ∈ ls, opn l = true ∧ l.one = z ∧ l.oth = y
  | [], acc => by simp
  | l :: ls, acc => by
    rw [List.foldl_cons, nx_mem z y ls]
    unfold nxStep
    by_cases h : opn l = true ∧ l.one = z ∧ l.oth ∉ acc
    · rw [if_pos h, List.mem_append, List.mem_singleton]
      constructor
      · rintro ((h1 | h1) | ⟨l', h1, h2⟩)
        · exact .inl h1
        · exact .inr ⟨l, List.mem_cons_self, h.1, h.2.1, h1.symm⟩
        · exact .inr ⟨l', List.mem_cons_of_mem _ h1, h2⟩
      · rintro (h1 | ⟨l', h1, h2⟩)
        · exact .inl (.inl h1)
        · rcases List.mem_cons.mp h1 with e | e
          · subst e
            exact .inl (.inr h2.2.2.symm)
          · exact .inr ⟨l', e, h2⟩
    · rw [if_neg h]
      constructor
      · rintro (h1 | ⟨l', h1, h2⟩)
        · exact .inl h1
        · exact .inr ⟨l', List.mem_cons_of_mem _ h1, h2⟩
      · rintro (h1 | ⟨l', h1, h2⟩)
        · exact .inl h1
        · rcases List.mem_cons.mp h1 with e | e
          · subst e
            refine .inl ?_
            by_cases q : y ∈ acc
            · exact q
            · exact absurd ⟨h2.1, h2.2.1, h2.2.2 ▸ q⟩ h
          · exact .inr ⟨l', e, h2⟩
theorem nxL_mem {z y : Str} {ls : List Lk} : y ∈ nxL ls z ↔ ∃ l ∈ ls, opn l = true ∧ l.one = z ∧ l.oth = y := by
  unfold nxL
  rw [nx_mem]
  simp
theorem nx_len (z : Str) : ∀ (ls : List Lk) (acc : List Str), (ls.foldl (nxStep z) acc).length ≤ acc.length + ls.length
  | [], acc => by simp
  | l :: ls, acc => by
    rw [List.foldl_cons]
    refine Nat.le_trans (nx_len z ls _) ?_
    have : (nxStep z acc l).length ≤ acc.length + 1 := by
      unfold nxStep
      split
      · simp
      · omega
    rw [List.length_cons]
    omega
theorem nxL_len (ls : List Lk) (z : Str) : (nxL ls z).length ≤ ls.length := by
  have h := nx_len z ls []
  rw [List.length_nil, Nat.zero_add] at h
  exact h
theorem val_map {κ : Type} [DecidableEq κ] {α : Type} (key : α → κ) (v : α → V) (hk : ∀ a b, key a = key b → a = b) (z : α) : ∀ l : List α, z ∈ l → valV (l.map fun a => (key a, v a)) (key z) = some (v z)
  | [], h => (nomatch h)
  | a :: l, h => by
    by_cases e : a = z
    · subst e
      exact valV_pos rfl
    · have hz : z ∈ l := by
        rcases List.mem_cons.mp h with q | q
        · exact absurd q.symm e
        · exact q
      rw [List.map_cons, valV_neg (fun q => e (hk _ _ q))]
      exact val_map key v hk z l hz
theorem val_no {κ : Type} [DecidableEq κ] {α : Type} (key : α → κ) (v : α → V) (hk : ∀ a b, key a = key b → a = b) (z : α) : ∀ l : List α, z ∉ l → valV (l.map fun a => (key a, v a)) (key z) = none
  | [], _ => rfl
  | a :: l, h => by
    rw [List.map_cons, valV_neg (fun q => h (by rw [hk _ _ q]; exact List.mem_cons_self))]
    exact val_no key v hk z l fun q => h (List.mem_cons_of_mem _ q)
/-- a dict of texts -/
def dS (l : List Str) (v : Str → V) : List (Key × V) := l.map fun z => (Sum.inr z, v z)
theorem dS_in {l : List Str} {v : Str → V} {z : Str} (h : z ∈ l) : valV (dS l v) (Sum.inr z) = some (v z) := val_map (κ := Key) (fun z : Str => Sum.inr z) v (fun a b e => Sum.inr.inj e) z l h
theorem dS_no {l : List Str} {v : Str → V} {z : Str} (h : z ∉ l) : valV (dS l v) (Sum.inr z) = none := val_no (κ := Key) (fun z : Str => Sum.inr z) v (fun a b e => Sum.inr.inj e) z l h
theorem dS_put {l : List Str} {v : Str → V} {z : Str} (h : z ∉ l) (x : V) : putK (dS l v) (Sum.inr z) x = dS l v ++ [(Sum.inr z, x)] := by
  unfold putK
  rw [valV_any, dS_no h]
  rfl
theorem dS_len (l : List Str) (v : Str → V) : (dS l v).length = l.length := List.length_map _
def setF (f : Str → Addr) (z : Str) (b : Addr) : Str → Addr := fun y => if y = z then b else f y
theorem setF_same {f : Str → Addr} {z : Str} {b : Addr} : setF f z b z = b := if_pos rfl
theorem setF_ne {f : Str → Addr} {z y : Str} {b : Addr} (h : ¬ y = z) : setF f z b y = f y := if_neg h
theorem dS_setF {l : List Str} {f : Str → Addr} {z : Str} {b : Addr} (h : z ∉ l) : dS (l ++ [z]) (fun y => .ref (setF f z b y)) = dS l (fun y => .ref (f y)) ++ [(Sum.inr z, .ref b)] := by
  have e1 : dS l (fun y => .ref (setF f z b y)) = dS l fun y => .ref (f y) := List.map_congr_left fun y hy => by
    have ny : ¬ y = z := fun q => h (q ▸ hy)
    show ((Sum.inr y : Key), V.ref (setF f z b y)) = (Sum.inr y, V.ref (f y))
    rw [setF_ne ny]
  have e2 : dS (l ++ [z]) (fun y => .ref (setF f z b y)) = dS l (fun y => .ref (setF f z b y)) ++ [(Sum.inr z, .ref (setF f z b z))] := List.map_append
  rw [e2, e1, setF_same]
/-- for each place the places behind it -/
structure NxAt (H : Hp) (q : Addr) (places : List Str) (f : Str → Addr) (g : Str → List Str) : Prop where
  d : H q = some (.dK (dS places fun z => .ref (f z)))
  l : ∀ z ∈ places, H (f z) = some (.lst ((g z).map V.str))
section
variable {P : Program} {w : World} {K : PySem.W.Frag} {mg : Str → Option Value} {base : Heap}
def spNexts (K : PySem.W.Frag) : Sp := fun vs H Q _ => ∃ (p : Addr) (L : LandD), vs = [.ref p] ∧ LandAt K H p L ∧ LandOk L ∧ ∀ q H' f, Same H H' → NxAt H' q L.places f (nxL L.links) → Q (.ref q) H'
abbrev nmNexts : List Str := ["land", "found", "_", "one", "other", "times", "place", "pair"]
theorem scNexts : FnScope nmNexts ["land"] (defScope sNexts) := ⟨rfl, rfl, rfl, by decide +kernel, rfl, by decide +kernel, by decide +kernel⟩
theorem ok_nexts (T : Txt K mg) : Has P w K mg base 1 "nexts" ["land"] (spNexts K) := by
  refine has_of T.dNexts T.gNexts scNexts (fun vs H Q E h => by obtain ⟨p, L, rfl, _⟩ := h; rfl) (fun _ _ _ _ _ _ us hl => match us, hl with | [_], _ => rfl) fun cdv A outer s H vs Q E hr h => ?_
  obtain ⟨p, L, rfl, hL, ok, k⟩ := h
  have hu := hu_of hr
  obtain ⟨dx, wd, pl, la, pa, hp, hwd, hpl, hl, hpa⟩ := id hL
  obtain ⟨la', xs, el, hS, hd⟩ := dp_tup hl
  cases el
  have llen : xs.length = L.links.length := by rw [dpa_len hd, List.length_map]
  refine ⟨_, pss_cons (ps_setDc (i := 1) (own := [("place", 6)]) (g := gName 6) (by rfl) scNexts.nd rfl rfl (sw_dc rfl rfl rfl (by decide +kernel)) (pi_tup (pe_fld (pv 0) rfl)) (blkOk_by (N := nmNexts) (sc := defScope sNexts) (by decide +kernel))
      (fun _ _ _ _ _ => pg_name (i := 6) scNexts.nd rfl (Or.inl rfl)) (fun _ _ _ _ _ => pts_nil) (fun _ _ _ _ _ => pv 6) (fun _ _ _ _ _ => pe_lst pa_nil))
    (pss_cons (ps_for PassesOwn.never rfl (pi_tup (pe_fld (pv 0) rfl)) (pg_tup rfl (pgs_cons (pg_name (i := 2) scNexts.nd rfl (.inl rfl)) (pgs_cons (pg_name (i := 3) scNexts.nd rfl (.inl rfl)) (pgs_cons (pg_name (i := 4) scNexts.nd rfl (.inl rfl)) (pgs_cons (pg_name (i := 5) scNexts.nd rfl (.inl rfl)) pgs_nil)))))
      (pss_one (ps_if (PW.pt (pw_and (pt_val (pe_callB (cr_any rfl) (by rfl) T.fAny (by decide +kernel) (pa_cons (pe_lc (own := [("pair", 7)]) (g := gName 7) (by rfl) scNexts.nd (pi_tup (pv 5)) (blkOk_by (N := nmNexts) (sc := defScope sNexts) (by decide +kernel))
          (fun _ _ _ _ _ => pg_name (i := 7) scNexts.nd rfl (Or.inl rfl)) (fun _ _ _ _ _ => pts_nil) (fun _ _ _ _ _ => pe_cmp (pc_notN (pv 7)) rfl)) pa_nil))) (pw_and1 (pt_cmpR op_notIn_seq (pv 4) (pe_dget hu (pv 1) (pv 3) (fun _ _ => rfl)) (by rfl)))))
        (pss_one (ps_expr (pe_bm PySem.F.plainAttrs_list PySem.F.slot_list_append PySem.F.type_list_append mt_append (pe_dget hu (pv 1) (pv 3) (fun _ _ => rfl)) (pa_cons (pv 4) pa_nil)))) pss_nil)))
    (pss_one (ps_ret (pv 1)))), ?_⟩
  refine ⟨_, rfl, p, CL K, dx, _, _, rfl, hp, T.cl, T.nPlaces, lf_places _ _ _ _, pl, rfl, ⟨_, hpl⟩, fun D hD => dc_it walk_tup (fun i H' => Same H H' ∧ ∃ f : Str → Addr, H' D = some (.dK (dS (L.places.take i) fun z => .ref (f z))) ∧
    (∀ z ∈ L.places.take i, H' (f z) = some (.lst []) ∧ H (f z) = none) ∧ ∀ z ∈ L.places.take i, ∀ y ∈ L.places.take i, f z = f y → z = y) ⟨sm_up hD, fun _ => 0, upd_same, fun z hz => by simp at hz, fun z hz => by simp at hz⟩ (fun i H' _ q => sm_tup q.1 hpl) ?_ ?_⟩
  · rintro i x H1 H2 hi ⟨s1, f, f1, f2, f3⟩ ⟨rfl, hx⟩
    obtain ⟨z, h3, rfl⟩ := get_map hx
    have zn : z ∉ L.places.take i := by
      intro hm
      obtain ⟨j, hj, e⟩ := List.mem_iff_getElem.mp hm
      have hj' : j < i := by
        rw [List.length_take] at hj
        omega
      have : L.places[j]? = some z := by
        rw [List.getElem_take] at e
        rw [← e]
        exact List.getElem?_eq_getElem _
      have := nd_ix ok.pnd this h3
      omega
    refine ⟨rfl, _, rfl, Nat.zero_le _, fun b hb => ?_⟩
    have bD : D ≠ b := ne_of_none f1 hb
    have e1 := sm_up (o := .lst []) hb
    refine ⟨_, Sum.inr z, rfl, e1 _ _ f1, small1000 (by rw [dS_len, List.length_take]; have := ok.pn; omega), sm_mut (s1.trans e1) hD, setF f z b, ?_, ?_, ?_⟩
    · rw [upd_same, dS_put zn, take_snoc h3, dS_setF zn]
    · intro y hy
      rw [take_snoc h3] at hy
      rcases List.mem_append.mp hy with hy | hy
      · have ne : ¬ y = z := fun e => zn (e ▸ hy)
        obtain ⟨g1, g2⟩ := f2 y hy
        rw [setF_ne ne]
        refine ⟨?_, g2⟩
        rw [upd_ne]
        · exact e1 _ _ g1
        · intro e
          rw [e, f1] at g1
          cases g1
      · obtain rfl := List.mem_singleton.mp hy
        rw [setF_same]
        refine ⟨?_, s1.free hb⟩
        rw [upd_ne bD.symm, upd_same]
    · have fr : ∀ y ∈ L.places.take i, f y ≠ b := fun y hy => ne_of_none (f2 y hy).1 hb
      have nz : ∀ y ∈ L.places.take i, ¬ y = z := fun y hy q => zn (q ▸ hy)
      intro y hy y' hy' e
      rw [take_snoc h3] at hy hy'
      rcases List.mem_append.mp hy with h1 | h1
      · rcases List.mem_append.mp hy' with h2 | h2
        · rw [setF_ne (nz y h1), setF_ne (nz y' h2)] at e
          exact f3 y h1 y' h2 e
        · have e2 := List.mem_singleton.mp h2
          rw [e2, setF_ne (nz y h1), setF_same] at e
          exact absurd e (fr y h1)
      · have e2 := List.mem_singleton.mp h1
        rcases List.mem_append.mp hy' with h2 | h2
        · rw [e2, setF_same, setF_ne (nz y' h2)] at e
          exact absurd e.symm (fr y' h2)
        · rw [e2, List.mem_singleton.mp h2]
  · rintro H1 ⟨s1, f, f1, f2, f3⟩
    have e : (L.places.map V.str).length = L.places.length := List.length_map _
    rw [e, List.take_length] at f1 f2 f3
    refine ⟨_, rfl, p, CL K, dx, _, _, rfl, s1 _ _ hp, T.cl, T.nLinks, lf_links _ _ _ _, la, rfl, ⟨_, sm_tup s1 hS⟩, for_tup (K := K) (a := la) (xs := xs) (fun i σ H' => Same H H' ∧ (∃ u2 u3 u4 u5, σ = [some (.ref p), some (.ref D), u2, u3, u4, u5, none, none]) ∧ H' D = some (.dK (dS L.places fun z => .ref (f z))) ∧
      ∀ z ∈ L.places, H' (f z) = some (.lst ((nxL (L.links.take i) z).map V.str))) ⟨s1, ⟨_, _, _, _, rfl⟩, f1, fun z hz => (f2 z hz).1⟩ (fun i σ H' _ q => sm_tup q.1 hS) ?_ ?_⟩
    · rintro i x σ Ha hx ⟨t1, ⟨u2, u3, u4, u5, rfl⟩, t2, t3⟩
      obtain ⟨d, g1, g2⟩ := dpa_get hd hx
      obtain ⟨l, g3, rfl⟩ := get_map g1
      have lk := ok.lk l (List.mem_of_getElem? g3)
      obtain ⟨c, ys, rfl, hc, hys⟩ := dp_tup (dp_sm t1 _ _ g2)
      obtain ⟨y1, y2, y3, y4, rfl, _, hy2, hy3, hy4⟩ := dpa_4 hys
      obtain rfl := dp_str hy2
      obtain rfl := dp_str hy3
      obtain ⟨ta, ts, rfl, hts, htd⟩ := dp_tup hy4
      have tl : ts.length = l.ts.length := by rw [dpa_len htd, List.length_map]
      have tl4 : l.ts.length ≤ 4 := by
        rw [lk.ts]
        exact ok.wn
      refine ⟨c, _, rfl, hc, rfl, _, _, rfl, _, _, rfl, _, _, rfl, _, _, rfl, rfl, ?_⟩
      refine ⟨_, rfl, ta, rfl, ⟨_, hts⟩, fun D2 hD2 => lc_data (K := K) walk_tup hD2 (fun j => (l.ts.take j).map fun q => PyData.bool q.isSome) rfl (fun j hj => ?_) (fun H' e => sm_tup e hts) ?_ ?_⟩
      · rw [List.length_map, List.length_take]
        exact small1000 (by omega)
      · rintro j v Hb Hc N hj e1 ⟨rfl, hv⟩ kY kN
        obtain ⟨d, b1, b2⟩ := dpa_get htd hv
        obtain ⟨q, b3, rfl⟩ := get_map b1
        refine ⟨rfl, _, rfl, ?_⟩
        refine kY _ _ (.bool q.isSome) (Same.refl _) ?_ rfl ?_
        · cases q with
          | none =>
            obtain rfl := dp_non b2
            exact .bl _
          | some q =>
            obtain ⟨lo, hi'⟩ := q
            obtain ⟨z', x1, x2, rfl, _⟩ := dp_tup2 b2
            exact .bl _
        · rw [take_snoc b3, List.map_append]
          rfl
      · intro Hb e1 hls
        obtain ⟨acc, hA, hdp, _⟩ := hls
        rw [tl, List.take_length] at hdp
        have ea : acc = (l.ts.map Option.isSome).map V.bl := dpa_bools (by rw [List.map_map]; exact hdp)
        subst ea
        have eo : (l.ts.map Option.isSome).any id = opn l := by
          unfold opn
          rw [List.any_map]
          rfl
        refine ⟨D2, l.ts.map Option.isSome, rfl, SqL.of hA, opn l, by rw [eo], ?_⟩
        have t4 := t1.trans e1
        have no : nxStep l.one (nxL (L.links.take i) l.one) l = nxL (L.links.take (i + 1)) l.one := by rw [take_snoc g3, nxL_snoc]
        have stay : (∀ z ∈ L.places, nxL (L.links.take (i + 1)) z = nxL (L.links.take i) z) → ∀ z ∈ L.places, Hb (f z) = some (.lst ((nxL (L.links.take (i + 1)) z).map V.str)) := fun h z hz => by
          rw [h z hz]
          exact e1 _ _ (t3 z hz)
        by_cases ho : opn l = true
        · rw [ho]
          refine iteT ?_
          have dg : DGet Hb D (.str l.one) (some (.ref (f l.one))) := by
            rw [← dS_in (l := L.places) (v := fun z => .ref (f z)) lk.one]
            exact DGet.k (k := Sum.inr l.one) (e1 _ _ t2)
          refine ⟨_, rfl, _, rfl, _, rfl, D, _, rfl, dg, f l.one, _, rfl, .inl (SqL.of (e1 _ _ (t3 _ lk.one))), rfl, flat_strs _, decide (l.oth ∉ nxL (L.links.take i) l.one), ?_, ?_⟩
          · rw [inV_str]
            simp
          · refine ite2 (fun c => ?_) fun c => ?_
            · have c' : l.oth ∉ nxL (L.links.take i) l.one := of_decide_eq_true c
              refine ⟨_, rfl, _, rfl, D, _, rfl, dg, .inl ⟨rfl, _, SqL.of (e1 _ _ (t3 _ lk.one))⟩, _, rfl, f l.one, _, _, rfl, rfl, e1 _ _ (t3 _ lk.one), small1000 (by rw [List.length_map]; have := nxL_len (L.links.take i) l.one; rw [List.length_take] at this; have := ok.ln; omega), ?_⟩
              refine ⟨sm_mut t4 (f2 _ lk.one).2, ⟨_, _, _, _, rfl⟩, ?_, fun z hz => ?_⟩
              · rw [upd_ne]
                · exact e1 _ _ t2
                · intro e
                  have q := t3 _ lk.one
                  rw [← e, t2] at q
                  cases q
              · by_cases ez : z = l.one
                · subst ez
                  rw [upd_same, ← no]
                  unfold nxStep
                  rw [if_pos ⟨ho, rfl, c'⟩, List.map_append]
                  rfl
                · rw [upd_ne fun e => ez (f3 z hz _ lk.one e), take_snoc g3, nxL_snoc]
                  unfold nxStep
                  rw [if_neg fun q => ez q.2.1.symm]
                  exact e1 _ _ (t3 z hz)
            · refine ⟨t4, ⟨_, _, _, _, rfl⟩, e1 _ _ t2, stay fun z hz => ?_⟩
              rw [take_snoc g3, nxL_snoc]
              unfold nxStep
              rw [if_neg fun q => c (decide_eq_true (by rw [q.2.1]; exact q.2.2))]
        · have ho' : opn l = false := by simpa using ho
          rw [ho']
          refine iteF (iteF ⟨t4, ⟨_, _, _, _, rfl⟩, e1 _ _ t2, stay fun z hz => ?_⟩)
          rw [take_snoc g3, nxL_snoc]
          unfold nxStep
          rw [if_neg fun q => ho q.1]
    · rintro σ Ha ⟨t1, ⟨u2, u3, u4, u5, rfl⟩, t2, t3⟩
      rw [llen, List.take_length] at t3
      exact ⟨_, rfl, k D Ha f t1 ⟨t2, t3⟩⟩
end
/-! ### has_way: what is come to -/
def Edge (links : List Lk) (z y : Str) : Prop := ∃ l ∈ links, opn l = true ∧ l.one = z ∧ l.oth = y
inductive Rch (links : List Lk) (starts B : List Str) : Str → Prop
  | st {z : Str} : z ∈ starts → z ∉ B → Rch links starts B z
  | go {z y : Str} : Rch links starts B z → Edge links z y → y ∉ B → Rch links starts B y
structure HwI (places : List Str) (links : List Lk) (starts B S W : List Str) (Ex : Str → Str → Prop) : Prop where
  nd : S.Nodup
  pl : ∀ z ∈ S, z ∈ places
  rc : ∀ z ∈ S, Rch links starts B z
  ws : ∀ z ∈ W, z ∈ S
  st : ∀ z ∈ starts, z ∉ B → z ∈ S
  cl : ∀ z ∈ S, z ∉ W → ∀ y, Edge links z y → ¬ Ex z y → y ∉ B → y ∈ S
section
variable {places : List Str} {links : List Lk} {starts B S W : List Str}
theorem hw_pop {c : Str} (I : HwI places links starts B S W fun _ _ => False) (hc : W[W.length - 1]? = some c) : HwI places links starts B S W.dropLast (fun z y => z = c ∧ y ∉ (nxL links c).take 0) ∧ c ∈ S ∧ W.dropLast.length + 1 = W.length := by
  have hm : c ∈ W := List.mem_of_getElem? hc
  have ne : W ≠ [] := fun e => by rw [e] at hm; cases hm
  have e : W = W.dropLast ++ [c] := by
    have q := (List.dropLast_concat_getLast ne).symm
    have q2 : W.getLast ne = c := by
      rw [List.getElem?_eq_getElem (by have := List.length_pos_iff.mpr ne; omega)] at hc
      rw [List.getLast_eq_getElem]
      exact Option.some.inj hc
    rw [q2] at q
    exact q
  refine ⟨⟨I.nd, I.pl, I.rc, fun z hz => I.ws z (List.dropLast_subset _ hz), I.st, fun z hz hw y he hx hb => ?_⟩, I.ws c hm, ?_⟩
  · by_cases q : z = c
    · exact absurd ⟨q, by simp⟩ hx
    · refine I.cl z hz (fun h => ?_) y he id hb
      rw [e] at h
      rcases List.mem_append.mp h with h | h
      · exact hw h
      · exact q (List.mem_singleton.mp h)
  · rw [List.length_dropLast]
    have := List.length_pos_iff.mpr ne
    omega
theorem hw_skip {c y : Str} {i : Nat} (I : HwI places links starts B S W (fun z y => z = c ∧ y ∉ (nxL links c).take i)) (hy : (nxL links c)[i]? = some y) (h : y ∈ S ∨ y ∈ B) : HwI places links starts B S W (fun z y => z = c ∧ y ∉ (nxL links c).take (i + 1)) := by
  refine ⟨I.nd, I.pl, I.rc, I.ws, I.st, fun z hz hw x he hx hb => ?_⟩
  by_cases q : x = y
  · subst q
    exact h.resolve_right hb
  · refine I.cl z hz hw x he (fun ⟨h1, h2⟩ => hx ⟨h1, fun h3 => ?_⟩) hb
    rw [take_snoc hy] at h3
    rcases List.mem_append.mp h3 with h3 | h3
    · exact h2 h3
    · exact q (List.mem_singleton.mp h3)
theorem hw_push {c y : Str} {i : Nat} (I : HwI places links starts B S W (fun z y => z = c ∧ y ∉ (nxL links c).take i)) (hc : c ∈ S) (hy : (nxL links c)[i]? = some y) (h1 : y ∉ S) (h2 : y ∉ B) (hp : y ∈ places) : HwI places links starts B (S ++ [y]) (W ++ [y]) (fun z y => z = c ∧ y ∉ (nxL links c).take (i + 1)) := by
  have hed : Edge links c y := nxL_mem.mp (List.mem_of_getElem? hy)
  refine ⟨?_, fun z hz => ?_, fun z hz => ?_, fun z hz => ?_, fun z hz hb => List.mem_append.mpr (.inl (I.st z hz hb)), fun z hz hw x he hx hb => ?_⟩
  · refine List.nodup_append.mpr ⟨I.nd, by simp, fun a ha b hb e => ?_⟩
    rw [List.mem_singleton.mp hb] at e
    exact h1 (e ▸ ha)
  · rcases List.mem_append.mp hz with hz | hz
    · exact I.pl z hz
    · rw [List.mem_singleton.mp hz]
      exact hp
  · rcases List.mem_append.mp hz with hz | hz
    · exact I.rc z hz
    · rw [List.mem_singleton.mp hz]
      exact .go (I.rc c hc) hed h2
  · rcases List.mem_append.mp hz with hz | hz
    · exact List.mem_append.mpr (.inl (I.ws z hz))
    · exact List.mem_append.mpr (.inr hz)
  · have hzW : z ∉ W := fun h => hw (List.mem_append.mpr (.inl h))
    have hzS : z ∈ S := by
      rcases List.mem_append.mp hz with hz | hz
      · exact hz
      · exact absurd (List.mem_append.mpr (.inr hz)) hw
    by_cases q : x = y
    · exact List.mem_append.mpr (.inr (List.mem_singleton.mpr q))
    · refine List.mem_append.mpr (.inl (I.cl z hzS hzW x he (fun ⟨g1, g2⟩ => hx ⟨g1, fun h3 => ?_⟩) hb))
      rw [take_snoc hy] at h3
      rcases List.mem_append.mp h3 with h3 | h3
      · exact g2 h3
      · exact q (List.mem_singleton.mp h3)
theorem hw_for {c : Str} (I : HwI places links starts B S W (fun z y => z = c ∧ y ∉ (nxL links c).take (nxL links c).length)) : HwI places links starts B S W fun _ _ => False := by
  refine ⟨I.nd, I.pl, I.rc, I.ws, I.st, fun z hz hw x he _ hb => I.cl z hz hw x he (fun ⟨h1, h2⟩ => h2 ?_) hb⟩
  rw [List.take_length]
  subst h1
  exact nxL_mem.mpr he
theorem hw_end (I : HwI places links starts B S [] fun _ _ => False) (z : Str) : z ∈ S ↔ Rch links starts B z := by
  refine ⟨I.rc z, fun h => ?_⟩
  induction h with
  | st h1 h2 => exact I.st _ h1 h2
  | go h1 h2 h3 ih => exact I.cl _ ih (by simp) _ h2 id h3
end
theorem dS_again {l : List Str} {z : Str} (x : V) (h : z ∈ l) : putK (dS l fun _ => x) (Sum.inr z) x = dS l fun _ => x := by
  unfold putK
  rw [valV_any, dS_in h]
  show (dS l fun _ => x).map (fun kv => if kv.1 = Sum.inr z then (kv.1, x) else kv) = _
  unfold dS
  rw [List.map_map]
  refine List.map_congr_left fun y _ => ?_
  show (if (Sum.inr y : Key) = Sum.inr z then (Sum.inr y, x) else (Sum.inr y, x)) = ((Sum.inr y : Key), x)
  split <;> rfl
theorem dS_app {l : List Str} {z : Str} (x : V) (h : z ∉ l) : putK (dS l fun _ => x) (Sum.inr z) x = dS (l ++ [z]) fun _ => x := by
  rw [dS_put h]
  unfold dS
  rw [List.map_append]
  rfl
section
variable {P : Program} {w : World} {K : PySem.W.Frag} {mg : Str → Option Value} {base : Heap}
theorem dp_strs {H : Hp} {v : V} {ss : List Str} (h : Dp K H v (strsD ss)) : ∃ a, v = .ref a ∧ SqL K H a (ss.map V.str) := by
  obtain ⟨a, xs, rfl, hs, hd⟩ := dp_lst h
  rw [dpa_ofStrs hd] at hs
  exact ⟨a, rfl, hs⟩
def spHasWay (K : PySem.W.Frag) : Sp := fun vs H Q _ => ∃ (p : Addr) (L : LandD) (sv gv bv : V) (starts goals B : List Str), vs = [.ref p, sv, gv, bv] ∧ LandAt K H p L ∧ LandOk L ∧ Dp K H sv (strsD starts) ∧ Dp K H gv (strsD goals) ∧ Dp K H bv (strsD B) ∧
  starts.length ≤ 900 ∧ goals.length ≤ 900 ∧ (∀ z ∈ starts, z ∈ L.places) ∧ ∀ H' b, Same H H' → (b = true ↔ ∃ g ∈ goals, Rch L.links starts B g) → Q (.bl b) H'
abbrev nmHasWay : List Str := ["land", "starts", "goals", "places", "following", "seen", "waiting", "other", "place", "goal"]
theorem scHasWay : FnScope nmHasWay ["land", "starts", "goals", "places"] (defScope sHasWay) := ⟨rfl, rfl, rfl, by decide +kernel, rfl, by decide +kernel, by decide +kernel⟩
theorem ok_has_way (T : Txt K mg) : Has P w K mg base 2 "has_way" ["land", "starts", "goals", "places"] (spHasWay K) := by
  have Gn : Has P w K mg base 1 "nexts" ["land"] (spNexts K) := ok_nexts T
  refine has_of T.dHasWay T.gHasWay scHasWay (fun vs H Q E h => by obtain ⟨p, L, sv, gv, bv, starts, goals, B, rfl, _⟩ := h; rfl) (fun _ _ _ _ _ _ us hl => match us, hl with | [_, _, _, _], _ => rfl) fun cdv A outer s H vs Q E hr h => ?_
  obtain ⟨p, L, sv, gv, bv, starts, goals, B, rfl, hL, ok, hsv, hgv, hbv, sl, gl, sp, k⟩ := h
  have hu := hu_of hr
  obtain ⟨a1, rfl, hS⟩ := dp_strs hsv
  obtain ⟨a2, rfl, hG⟩ := dp_strs hgv
  obtain ⟨a3, rfl, hB⟩ := dp_strs hbv
  refine ⟨_, pss_cons (ps_set (i := 4) scHasWay.nd rfl (.inl rfl) (pe_f Gn hr (by rfl) (pa_cons (pv 0) pa_nil)))
    (pss_cons (ps_set (i := 5) scHasWay.nd rfl (.inr rfl) (pe_dc (own := [("place", 8)]) (g := gName 8) (by rfl) scHasWay.nd (pi_list (pv 1)) (blkOk_by (N := nmHasWay) (sc := defScope sHasWay) (by decide +kernel))
      (fun _ _ _ _ _ => pg_name (i := 8) scHasWay.nd rfl (Or.inl rfl)) (fun _ _ _ _ _ => pts_one (pt_cmpR (niS_ K) (pv 8) (pv 3) (by rfl))) (fun _ _ _ _ _ => pv 8) (fun _ _ _ _ _ => pe_bl)))
    (pss_cons (ps_set (i := 6) scHasWay.nd rfl (.inl rfl) (pe_callTy (call_listD rfl) (by rfl) T.fList (by decide +kernel) (pa_cons (pv 5) pa_nil)))
    (pss_cons (ps_while PassesOwn.never (pt_truth (pv 6) (by intro _; rfl))
      (pss_one (ps_for PassesOwn.never rfl (pi_list (pe_dget hu (pv 4) (pe_bm0 PySem.F.plainAttrs_list PySem.F.slot_list_pop PySem.F.type_list_pop mt_pop (pv 6)) (fun _ _ => rfl))) (pg_name (i := 7) scHasWay.nd rfl (.inl rfl))
        (pss_one (ps_if (PW.pt (pw_and (pt_cmp (pc_dnotin hu (pv 7) (pv 5))) (pw_and1 (pt_cmpR op_notIn_seq (pv 7) (pv 3) (by rfl)))))
          (pss_cons (ps_dput hu (pv 5) (pv 7) pe_bl rfl) (pss_one (ps_expr (pe_bm PySem.F.plainAttrs_list PySem.F.slot_list_append PySem.F.type_list_append mt_append (pv 6) (pa_cons (pv 7) pa_nil))))) pss_nil)))))
    (pss_one (ps_ret (pe_callB (cr_any rfl) (by rfl) T.fAny (by decide +kernel) (pa_cons (pe_lc (own := [("goal", 9)]) (g := gName 9) (by rfl) scHasWay.nd (pi_list (pv 2)) (blkOk_by (N := nmHasWay) (sc := defScope sHasWay) (by decide +kernel))
      (fun _ _ _ _ _ => pg_name (i := 9) scHasWay.nd rfl (Or.inl rfl)) (fun _ _ _ _ _ => pts_nil) (fun _ _ _ _ _ => pe_cmp (pc_din hu (pv 9) (pv 5)) rfl)) pa_nil))))))), ?_⟩
  refine ⟨_, rfl, p, L, rfl, hL, ok, fun qa H1 f s1 nx => ?_⟩
  -- seen
  refine ⟨_, rfl, a1, rfl, ⟨_, s1.seq hS⟩, fun sa hsa => dc_it walk_list (fun i H' => Same H1 H' ∧ ∃ S : List Str, H' sa = some (.dK (dS S fun _ => .bl true)) ∧ S.Nodup ∧ S.length ≤ i ∧ ∀ z, z ∈ S ↔ z ∈ starts.take i ∧ z ∉ B) ⟨sm_up hsa, [], upd_same, List.nodup_nil, Nat.zero_le _, fun z => by simp⟩
    (fun i H' _ q => (s1.trans q.1).seq hS) ?_ ?_⟩
  · rintro i x Ha Hb hi ⟨t1, S, t2, t3, tl, t4⟩ ⟨rfl, hx⟩
    obtain ⟨z, h3, rfl⟩ := get_map hx
    have hi' : i < starts.length := (List.getElem?_eq_some_iff.mp h3).1
    refine ⟨rfl, _, rfl, _, rfl, a3, _, rfl, .inl ((s1.trans t1).seq hB), rfl, flat_strs _, decide (z ∉ B), ?_, ?_⟩
    · rw [inV_str]
      simp
    · refine ite2 (fun c => ?_) fun c => ?_
      · have c' : z ∉ B := of_decide_eq_true c
        refine ⟨_, rfl, _, Sum.inr z, rfl, t2, small1000 (by rw [dS_len]; omega), sm_mut t1 hsa, ?_⟩
        by_cases hz : z ∈ S
        · refine ⟨S, by rw [upd_same, dS_again _ hz], t3, by omega, fun y => ?_⟩
          rw [t4, take_snoc h3, List.mem_append, List.mem_singleton]
          constructor
          · rintro ⟨g1, g2⟩
            exact ⟨.inl g1, g2⟩
          · rintro ⟨g1 | g1, g2⟩
            · exact ⟨g1, g2⟩
            · rw [g1]
              exact (t4 z).mp hz
        · refine ⟨S ++ [z], by rw [upd_same, dS_app _ hz], ?_, by rw [List.length_append]; exact Nat.add_le_add_right tl 1, fun y => ?_⟩
          · refine List.nodup_append.mpr ⟨t3, by simp, fun a ha b hb e => ?_⟩
            rw [List.mem_singleton.mp hb] at e
            exact hz (e ▸ ha)
          · rw [List.mem_append, t4, take_snoc h3, List.mem_append, List.mem_singleton]
            constructor
            · rintro (⟨g1, g2⟩ | g1)
              · exact ⟨.inl g1, g2⟩
              · exact ⟨.inr g1, g1 ▸ c'⟩
            · rintro ⟨g1 | g1, g2⟩
              · exact .inl ⟨g1, g2⟩
              · exact .inr g1
      · have c' : z ∈ B := Classical.byContradiction fun q => c (decide_eq_true q)
        refine ⟨t1, S, t2, t3, by omega, fun y => ?_⟩
        rw [t4, take_snoc h3, List.mem_append, List.mem_singleton]
        constructor
        · rintro ⟨g1, g2⟩
          exact ⟨.inl g1, g2⟩
        · rintro ⟨g1 | g1, g2⟩
          · exact ⟨g1, g2⟩
          · exact absurd (g1 ▸ c') g2
  · rintro H2 ⟨t1, S0, t2, t3, tl0, t4⟩
    rw [List.length_map, List.take_length] at t4
    -- waiting
    refine ⟨_, rfl, sa, _, rfl, .inl t2, fun wa hwa => ?_⟩
    have hws : sa ≠ wa := ne_of_none t2 hwa
    have hsaH : H1 sa = none := hsa
    have hwaH : H1 wa = none := t1.free hwa
    have ew : ((dS S0 fun _ => V.bl true).map fun kv => kV kv.1) = S0.map V.str := by
      unfold dS
      rw [List.map_map]
      rfl
    rw [ew]
    have I0 : HwI L.places L.links starts B S0 S0 fun _ _ => False := ⟨t3, fun z hz => sp z ((t4 z).mp hz).1, fun z hz => .st ((t4 z).mp hz).1 ((t4 z).mp hz).2, fun z hz => hz, fun z hz hb => (t4 z).mpr ⟨hz, hb⟩, fun z hz hw => absurd hz hw⟩
    refine ⟨fun m σ H' => ∃ S W, m = 2 * (L.places.length - S.length) + W.length ∧ m ≤ 48 ∧ Same H1 H' ∧ (∃ u7, σ = [some (.ref p), some (.ref a1), some (.ref a2), some (.ref a3), some (.ref qa), some (.ref sa), some (.ref wa), u7, none, none]) ∧
      H' sa = some (.dK (dS S fun _ => .bl true)) ∧ H' wa = some (.lst (W.map V.str)) ∧ HwI L.places L.links starts B S W fun _ _ => False, ⟨_, S0, S0, rfl, by have := ok.pn; have := nodup_len t3 I0.pl; omega, sm_mut t1 hwaH, ⟨_, rfl⟩, by rw [upd_ne hws]; exact t2, upd_same, I0⟩, ?_⟩
    rintro m σ H3 ⟨S, W, rfl, m48, v1, ⟨u7, rfl⟩, v2, v3, I⟩
    refine ⟨_, rfl, !(W.map V.str).isEmpty, .inl ⟨_, SqL.of v3, rfl⟩, ?_⟩
    cases hW : W with
    | nil =>
      rw [hW] at I
      refine iteF ?_
      -- any goal
      refine ⟨_, rfl, a2, rfl, ⟨_, (s1.trans v1).seq hG⟩, fun D hD => lc_data (K := K) walk_list hD (fun j => (goals.take j).map fun g => PyData.bool (decide (g ∈ S))) rfl (fun j hj => ?_) (fun H' e => ((s1.trans v1).trans e).seq hG) ?_ ?_⟩
      · rw [List.length_map, List.length_take]
        exact small1000 (by omega)
      · rintro j x Ha Hb N hj e1 ⟨rfl, hx⟩ kY kN
        obtain ⟨z, h3, rfl⟩ := get_map hx
        refine ⟨rfl, _, rfl, _, rfl, sa, _, rfl, DGet.k (k := Sum.inr z) (e1 _ _ v2), ?_⟩
        refine kY _ _ (.bool (decide (z ∈ S))) (Same.refl _) ?_ rfl ?_
        · by_cases hz : z ∈ S
          · rw [dS_in hz, decide_eq_true hz]
            exact .bl _
          · rw [dS_no hz, decide_eq_false hz]
            exact .bl _
        · rw [take_snoc h3, List.map_append]
          rfl
      · intro Ha e1 hls
        obtain ⟨acc, hA, hdp, _⟩ := hls
        rw [List.length_map, List.take_length] at hdp
        have ea : acc = (goals.map fun g => decide (g ∈ S)).map V.bl := dpa_bools (by rw [List.map_map]; exact hdp)
        subst ea
        refine ⟨D, _, rfl, SqL.of hA, k Ha _ ((s1.trans v1).trans e1) ?_⟩
        rw [List.any_map, List.any_eq_true]
        constructor
        · rintro ⟨g, g1, g2⟩
          exact ⟨g, g1, (hw_end I g).mp (of_decide_eq_true g2)⟩
        · rintro ⟨g, g1, g2⟩
          exact ⟨g, g1, decide_eq_true ((hw_end I g).mpr g2)⟩
    | cons w0 wr =>
      refine iteT ?_
      have wne : W ≠ [] := by rw [hW]; exact List.cons_ne_nil _ _
      rw [← hW]
      have wpos := List.length_pos_iff.mpr wne
      obtain ⟨c, hc⟩ : ∃ c, W[W.length - 1]? = some c := ⟨_, List.getElem?_eq_getElem (by omega)⟩
      obtain ⟨I1, cS, wl⟩ := hw_pop I hc
      have cp := I.pl c cS
      refine ⟨fun σ' H' => ∃ S' W', 2 * (L.places.length - S'.length) + W'.length + 1 ≤ 2 * (L.places.length - S.length) + W.length ∧ Same H1 H' ∧ (∃ u7, σ' = [some (.ref p), some (.ref a1), some (.ref a2), some (.ref a3), some (.ref qa), some (.ref sa), some (.ref wa), u7, none, none]) ∧
        H' sa = some (.dK (dS S' fun _ => .bl true)) ∧ H' wa = some (.lst (W'.map V.str)) ∧ HwI L.places L.links starts B S' W' fun _ _ => False, fun σ' H' ⟨S', W', e1, e2, e3, e4, e5, e6⟩ => ⟨_, by omega, S', W', rfl, by omega, e2, e3, e4, e5, e6⟩, ?_⟩
      have dl : (W.map V.str).dropLast = W.dropLast.map V.str := List.map_dropLast.symm
      have v4 : Same H1 (upd H3 wa (.lst (W.map V.str).dropLast)) := sm_mut v1 hwaH
      have hfc : ∀ {Hx : Hp}, Same H1 Hx → Hx (f c) = some (.lst ((nxL L.links c).map V.str)) := fun e => e _ _ (nx.l c cp)
      refine ⟨_, rfl, _, rfl, .inl ⟨rfl, _, SqL.of v3⟩, wa, W.map V.str, .str c, rfl, rfl, v3, by rw [List.length_map, List.getElem?_map, hc]; rfl, qa, .ref (f c), rfl, ?_, f c, rfl, ⟨_, SqL.of (hfc v4)⟩,
        for_list (K := K) (a := f c) (xs := (nxL L.links c).map V.str) (fun i σ H' => ∃ S' W', 2 * (L.places.length - S'.length) + W'.length + 1 ≤ 2 * (L.places.length - S.length) + W.length ∧ Same H1 H' ∧ (∃ u7, σ = [some (.ref p), some (.ref a1), some (.ref a2), some (.ref a3), some (.ref qa), some (.ref sa), some (.ref wa), u7, none, none]) ∧
          H' sa = some (.dK (dS S' fun _ => .bl true)) ∧ H' wa = some (.lst (W'.map V.str)) ∧ c ∈ S' ∧ HwI L.places L.links starts B S' W' fun z y => z = c ∧ y ∉ (nxL L.links c).take i) ⟨S, W.dropLast, by omega, v4, ⟨_, rfl⟩, by rw [upd_ne hws]; exact v2, by rw [upd_same, dl], cS, I1⟩ (fun i σ H' _ ⟨S', W', e1, e2, _⟩ => SqL.of (hfc e2)) ?_ ?_⟩
      · rw [← dS_in (l := L.places) (v := fun z => .ref (f z)) cp]
        exact DGet.k (k := Sum.inr c) (v4 _ _ nx.d)
      · rintro i x σ H4 hx ⟨S', W', e1, e2, ⟨u7, rfl⟩, e4, e5, e6, I2⟩
        obtain ⟨y, h3, rfl⟩ := get_map hx
        obtain ⟨l, hl1, hl2, hl3, hl4⟩ := nxL_mem.mp (List.mem_of_getElem? h3)
        have yp : y ∈ L.places := hl4 ▸ (ok.lk l hl1).oth
        refine ⟨_, rfl, _, rfl, sa, _, rfl, DGet.k (k := Sum.inr y) e4, _, rfl, ?_⟩
        by_cases hy : y ∈ S'
        · rw [dS_in hy]
          refine iteF (iteF ⟨S', W', e1, e2, ⟨_, rfl⟩, e4, e5, e6, hw_skip I2 h3 (.inl hy)⟩)
        · rw [dS_no hy]
          refine iteT ⟨_, rfl, _, rfl, a3, _, rfl, .inl ((s1.trans e2).seq hB), rfl, flat_strs _, decide (y ∉ B), ?_, ?_⟩
          · rw [inV_str]
            simp
          · refine ite2 (fun d => ?_) fun d => ?_
            · have d' : y ∉ B := of_decide_eq_true d
              have I3 := hw_push I2 e6 h3 hy d' yp
              have sl3 := nodup_len I3.nd I3.pl
              have wl3 : W'.length ≤ 900 := by omega
              rw [List.length_append] at sl3
              refine ⟨_, rfl, _, rfl, sa, _, rfl, DPut.k (k := Sum.inr y) e4 (small1000 (by rw [dS_len]; have := ok.pn; omega)), ?_⟩
              rw [dS_app _ hy]
              refine ⟨_, rfl, .inl ⟨rfl, _, SqL.of (by rw [upd_ne hws.symm]; exact e5)⟩, _, rfl, wa, _, _, rfl, rfl, by rw [upd_ne hws.symm]; exact e5, small1000 (by rw [List.length_map]; omega), ?_⟩
              refine ⟨S' ++ [y], W' ++ [y], ?_, sm_mut (sm_mut e2 hsaH) hwaH, ⟨_, rfl⟩, ?_, ?_, List.mem_append.mpr (.inl e6), I3⟩
              · rw [List.length_append, List.length_append]
                simp only [List.length_singleton] at sl3 ⊢
                omega
              · rw [upd_ne hws, upd_same]
              · rw [upd_same, List.map_append]
                rfl
            · have d' : y ∈ B := Classical.byContradiction fun q => d (decide_eq_true q)
              exact ⟨S', W', e1, e2, ⟨_, rfl⟩, e4, e5, e6, hw_skip I2 h3 (.inr d')⟩
      · rintro σ H4 ⟨S', W', e1, e2, e3, e4, e5, e6, I2⟩
        rw [List.length_map] at I2
        exact ⟨S', W', e1, e2, e3, e4, e5, hw_for I2⟩
end
section
variable {P : Program} {w : World} {K : PySem.W.Frag} {mg : Str → Option Value} {base : Heap}
/-! ### is_kept -/
def spIsKept (K : PySem.W.Frag) : Sp := fun vs H Q _ => ∃ (p : Addr) (L : LandD) (sv gv bv : V) (starts goals B : List Str), vs = [.ref p, sv, gv, bv] ∧ LandAt K H p L ∧ LandOk L ∧ Dp K H sv (strsD starts) ∧ Dp K H gv (strsD goals) ∧ Dp K H bv (strsD B) ∧
  starts.length ≤ 900 ∧ goals.length ≤ 900 ∧ (∀ z ∈ starts, z ∈ L.places) ∧ (∀ z ∈ goals, z ∈ L.places) ∧ (∀ z ∈ B, z ∈ L.places) ∧ ∀ H' b, Same H H' → (b = true ↔ ¬ ∃ g ∈ goals, Rch L.links starts B g) → Q (.bl b) H'
theorem scIsKept : FnScope ["land", "starts", "goals", "places"] ["land", "starts", "goals", "places"] (defScope sIsKept) := ⟨rfl, rfl, rfl, by decide +kernel, rfl, by decide +kernel, by decide +kernel⟩
theorem ok_is_kept (T : Txt K mg) : Has P w K mg base 3 "is_kept" ["land", "starts", "goals", "places"] (spIsKept K) := by
  have G1 := ok_check_places (P := P) (w := w) (base := base) T
  have G2 : Has P w K mg base 2 "has_way" ["land", "starts", "goals", "places"] (spHasWay K) := ok_has_way T
  have kp : PySem.W.keepIn K (.ref (He.ga K "check_places")) = true := by
    obtain ⟨fd, F⟩ := T.dCheckPlaces
    exact F.kp
  refine has_of T.dIsKept T.gIsKept scIsKept (fun vs H Q E h => by obtain ⟨p, L, sv, gv, bv, starts, goals, B, rfl, _⟩ := h; rfl) (fun _ _ _ _ _ _ us hl => match us, hl with | [_, _, _, _], _ => rfl) fun cdv A outer s H vs Q E hr h => ?_
  obtain ⟨p, L, sv, gv, bv, starts, goals, B, rfl, hL, ok, hsv, hgv, hbv, sl, gl, sp, gp, bp, k⟩ := h
  refine ⟨_, pss_cons (ps_expr (pe_callR G1 hr kp (by rfl) T.gCheckPlaces (pa_cons (pv 0) (pa_cons (pv 1) (pa_cons (pv 2) (pa_cons (pv 3) pa_nil))))))
    (pss_one (ps_ret (pe_not (pe_f G2 hr (by rfl) (pa_cons (pv 0) (pa_cons (pv 1) (pa_cons (pv 2) (pa_cons (pv 3) pa_nil)))))))), ?_⟩
  refine ⟨_, rfl, _, rfl, _, rfl, _, rfl, [.ref p], [sv, gv, bv], rfl, rfl, (by show 3 ≤ sizeLine; decide), fun q hq => ?_⟩
  have s1 := sm_up (o := .tup [sv, gv, bv]) hq
  refine ⟨p, L, q, [sv, gv, bv], [starts, goals, B], rfl, land_sm s1 hL, SqT.of upd_same, .cons (dp_sm s1 _ _ hsv) (.cons (dp_sm s1 _ _ hgv) (.cons (dp_sm s1 _ _ hbv) .nil)), fun ss hss z hz => ?_, ?_⟩
  · simp only [List.mem_cons, List.not_mem_nil, or_false] at hss
    rcases hss with rfl | rfl | rfl
    · exact sp z hz
    · exact gp z hz
    · exact bp z hz
  · refine ⟨_, rfl, _, rfl, _, rfl, _, rfl, p, L, sv, gv, bv, starts, goals, B, rfl, land_sm s1 hL, ok, dp_sm s1 _ _ hsv, dp_sm s1 _ _ hgv, dp_sm s1 _ _ hbv, sl, gl, sp, fun H' b s2 hb => ⟨b, rfl, ?_⟩⟩
    refine k H' (!b) (s1.trans s2) ?_
    rw [← hb]
    cases b <;> simp
end
/-! ### rules: enumerate over a tuple, sorted of a tuple of texts, a pair of texts in a list -/
theorem en_new {v : Value} {o : Obj} {St : Heap → Prop} (B : Begins v o St) :
    Meets (Builtin.«enumerate.__new__» ⟨[.type "enumerate", v], []⟩) (fun _ R s => St s.heap ∧ R (.ok (.ret (.ref (s.heap.push o).objs.size)))
      { s with heap := (s.heap.push o).push { cls := .type "enumerate", data := .fields #[.none, .bool false, .ref s.heap.objs.size, rawInt 0, .none, .none] } }) :=
  .of_wp fun prog w A R s hw => by
    obtain ⟨hp, gs, dr, tk, os⟩ := s
    obtain ⟨hst, hw⟩ := hw
    have sub := sub_enumerate
    have it : ∀ {A2 : Around} {X : Value → Shared → Prop} {Y : Value → Shared → Prop}, Y (.ref hp.objs.size) ⟨hp.push o, gs, dr, tk, os⟩ → wpAny (model prog w) A2 (pyIter v) Y X ⟨hp, gs, dr, tk, os⟩ := fun y => B.iter prog w _ _ ⟨hp, gs, dr, tk, os⟩ _ hst y
    wp_walk using it
    refine wpAny_stack_any fun sk => wpAny_pure ?_
    split
    · rename_i cc _ _ _ _ _
      cases (cc == Value.type "enumerate")
      · wp_walk using it
        exact ⟨_, rfl, hw⟩
      · wp_walk using it
        exact ⟨_, rfl, hw⟩
    · wp_walk using it
      exact ⟨_, rfl, hw⟩
theorem en_call {prog : Program} {w : World} {A : Around} {E : Value → Shared → Prop} {s : Shared} {t : Addr} {items : Array Value} {Q : Value → Shared → Prop} (ht : s.heap.IsTuple t items)
    (q : ∀ h', IsEnum h' (s.heap.objs.size + 1) s.heap.objs.size 0 .none → h'.IsTupleIter s.heap.objs.size t 0 → (∀ b o, s.heap.get? b = some o → h'.get? b = some o) → Q (.ref (s.heap.objs.size + 1)) { s with heap := h' }) :
    wpAny (model prog w) A (call (.type "enumerate") [.ref t]) Q E s := by
  refine callType_new F.called_enumerate (by decide) (F.typeCall_enumerate_1 _) (F.newCall_enumerate_1 _) (fun ob => F.args_object_init_2 ob _) F.entry_enumerate_new (en_new (begins_tuple t items)) ⟨ht, ?_⟩
  have z : (s.heap.push { cls := .type "tuple_iterator", data := .fields #[.ref t, .int 0 0] }).objs.size = s.heap.objs.size + 1 := Heap.size_push ..
  show _ ∧ _
  rw [z]
  have e : IsEnum ((s.heap.push { cls := .type "tuple_iterator", data := .fields #[.ref t, .int 0 0] }).push { cls := .type "enumerate", data := .fields #[.none, .bool false, .ref s.heap.objs.size, rawInt 0, .none, .none] }) (s.heap.objs.size + 1) s.heap.objs.size 0 .none := by
    have y := Heap.get?_push_size (s.heap.push { cls := .type "tuple_iterator", data := .fields #[.ref t, .int 0 0] }) (o := { cls := .type "enumerate", data := .fields #[.none, .bool false, .ref s.heap.objs.size, rawInt 0, .none, .none] }) rfl
    rw [z] at y
    exact y
  exact ⟨⟨_, e, rfl⟩, q _ e ⟨_, Heap.get?_push_of_some _ (Heap.get?_push_size _ rfl), rfl, rfl⟩ fun b o y => Heap.get?_push_of_some _ (Heap.get?_push_of_some _ y)⟩
/-- the tuple at a, each item in a new pair behind its number -/
def IenT (K : PySem.W.Frag) (a : Addr) : It :=
  ⟨fun i H => ∃ (xs : List V) (x : V), SqT K H a xs ∧ xs[i]? = some x, fun i H v H' => ∃ p x, v = .ref p ∧ H p = none ∧ H' = upd H p (.tup [.int (i : Nat), x]) ∧ ∀ xs, SqT K H a xs → xs[i]? = some x, fun i H => ∃ xs : List V, SqT K H a xs ∧ xs.length = i⟩
theorem turn_enT {P : Program} {w : World} {K : PySem.W.Frag} {elts : List Expr} {kk : Nat} {tpos : Pos} (a e it : Addr) :
    Turn P w K (.Tuple elts kk tpos) (IenT K a) [e, it] e (fun i h => (∃ old, IsEnum h e it ((i : Nat) : Int) old) ∧ h.IsTupleIter it a i ∧ e ≠ it ∧ e ≠ a ∧ a ≠ it) where
  mem := by simp
  obj := fun i h st b hb => by
    obtain ⟨⟨old, he⟩, ⟨o, ho, hc, hd⟩, _⟩ := st
    rcases List.mem_cons.mp hb with z | z
    · rw [z]
      exact ⟨_, he, fun v q => nomatch q⟩
    · rw [List.mem_singleton.mp z]
      exact ⟨o, ho, fun v q => by rw [hd] at q; cases q⟩
  keep := fun i h h' st k => by
    obtain ⟨⟨old, he⟩, hi, ne⟩ := st
    exact ⟨⟨old, k e (by simp) _ he⟩, hi.at fun o q => k it (by simp) o q, ne⟩
  item := by
    intro X hP hw hK hc i pins s σ H E I hf st hg
    subst hP hw hK
    obtain ⟨⟨old, he⟩, hit, ne1, ne2, ne3⟩ := st
    obtain ⟨xs, x, hq, hx⟩ := hg
    obtain ⟨its, rv, p, _⟩ := I.tuple hq
    obtain ⟨u, hu, ru⟩ := rv.get hx
    have le : e < s.heap.objs.size := Heap.lt_size he
    have li : it < s.heap.objs.size := by
      obtain ⟨_, q, _⟩ := hit
      exact Heap.lt_size q
    have hlt : i < its.toArray.size := by
      have := (List.getElem?_eq_some_iff.mp hu).1
      simpa using this
    have hnf : e ∉ [it, a] := by simp [ne1, ne2]
    refine wpAny_pyNext_enum_itemD (Draws.tuple (A := X.A.in1) (by exact I.ok.hd hc) it a ne3 its.toArray) he ⟨hit, p⟩ hlt ne1 hnf fun y h' tk py ho hst hT hsz hk => ?_
    have ey : y = u := by
      have : its.toArray[i]? = some y := py
      simp at this
      rw [hu] at this
      exact (Option.some.inj this).symm
    subst ey
    refine ⟨_, rfl, wpAny_letOwnedTupleGo_enum (s := { s with heap := h', toks := tk + 1 }) ho fun h2 he2 sb => ?_⟩
    have hT2 : h2.get? s.heap.objs.size = some { cls := .type "tuple", data := .seq #[.int i tk, y] } := (sb.2 _ (Nat.ne_of_gt le)).trans hT
    have new : ObjOk X.prog X.w (upd H s.heap.objs.size (.tup [.int (i : Nat), x])) h2 s.heap.objs.size (.tup [.int (i : Nat), x]) :=
      ⟨by show 2 ≤ sizeLine; decide, [.int i tk, y], .cons ⟨_, rfl⟩ (.cons ru .nil), ⟨_, hT2, rfl, _, rfl⟩⟩
    have I1 : Inv X pins σ (upd H s.heap.objs.size (.tup [.int (i : Nat), x])) { s with heap := h2, toks := tk + 1 } :=
      I.turnedNew (ch := [e, it]) (fun b ob hb q => (sb.2 b (fun z => hb (by simp [z]))).trans (hk b ob (fun z => hb (by simp [z])) (fun z => hb (by simp [z])) q)) hf (Nat.le_refl _) new
    refine ⟨.ref s.heap.objs.size, _, I1, rfl, ⟨_, x, rfl, I.hok.fresh (Nat.le_refl _), rfl, fun ys hy => by rw [I.tuple_inj hy hq]; exact hx⟩, ⟨⟨y, ?_⟩, hst.1.at fun o q => (sb.2 it ne1.symm).trans q, ne1, ne2, ne3⟩, fun b hb => ?_⟩
    · have e1 : ((i + 1 : Nat) : Int) = (i : Int) + 1 := by omega
      rw [e1]
      exact he2
    · have lb : b < s.heap.objs.size := by
        rcases List.mem_cons.mp hb with z | z
        · rw [z]
          exact le
        · rw [List.mem_singleton.mp z]
          exact li
      rw [upd_ne (Nat.ne_of_lt lb)]
      exact (hf b hb).1
  done := by
    intro X hP hw hK hc i pins s σ H E I hf st hg
    subst hP hw hK
    obtain ⟨⟨old, he⟩, hit, ne1, ne2, ne3⟩ := st
    obtain ⟨xs, hq, hx⟩ := hg
    obtain ⟨its, rv, p, _⟩ := I.tuple hq
    obtain ⟨f0, f1, f2, f3, f4, f5⟩ := hf it (by simp)
    have ei : i = its.toArray.size := by
      rw [← hx, rv.length]
      simp
    subst ei
    exact wpAny_pyNext_enum_endD (Draws.tuple (A := X.A.in1) (by exact I.ok.hd hc) it a ne3 its.toArray) he ⟨hit, p⟩ fun h' eb => ⟨rfl, I.turned (t' := s.toks) (fun b o hb q => eb b o hb q) f0 f1 f3 f4 f5⟩
  self := fun A i s Q E st hw => by
    obtain ⟨⟨_, he⟩, _⟩ := st
    exact wpAny_pyIter_enum he hw
def iEnT (K : PySem.W.Frag) (ta : TA) : TI := fun σ H R => ta σ H fun vs H1 => ∃ a xs, vs = [.ref a] ∧ SqT K H1 a xs ∧ R (IenT K a) H1
theorem pi_enT {X : Cx} {e : Expr} {ta : TA} {p pos tpos : Pos} {elts : List Expr} {kk : Nat} (hg : Gl X "enumerate") (hm : X.mg "enumerate" = none) (ha : PA X [e] ta) (hs : starEach [e] X.env = [(false, eval e X.env)] := by rfl) :
    PI X (.Tuple elts kk tpos) (.Call (.Name "enumerate" p) [e] [] pos) (iEnT X.K ta) := by
  refine ⟨fun pins s σ H R I hw => ?_⟩
  refine Call_ (ld_blt I hg hm boot_enumerate (PyProof.Rows.callWith_type1 (thn (ha.run pos pins s σ H _ I hw) fun us s1 ⟨vs, H1, I1, r1, a, xs, ev, hq, q⟩ => ?_) hs rfl))
  subst ev
  obtain rfl := Vals.ref1 r1
  obtain ⟨its, rv, p', _⟩ := I1.tuple hq
  have la : a < s1.heap.objs.size := by
    obtain ⟨o, ho, _⟩ := p'
    exact Heap.lt_size ho
  refine en_call (show s1.heap.IsTuple a its.toArray from p') fun h' he hit hk => wpAny_pyIter_enum he ?_
  have I2 : Inv X pins σ H1 { s1 with heap := h' } := I1.kept (t' := s1.toks) hk
  refine ⟨s1.heap.objs.size + 1, [s1.heap.objs.size + 1, s1.heap.objs.size], _, _, H1, rfl, I2, turn_enT a (s1.heap.objs.size + 1) s1.heap.objs.size, ⟨⟨.none, he⟩, hit, Nat.succ_ne_self _, Nat.ne_of_gt (Nat.lt_succ_of_lt la), Nat.ne_of_lt la⟩, fun b hb => ?_, q⟩
  have lb : s1.heap.objs.size ≤ b := by
    rcases List.mem_cons.mp hb with z | z
    · rw [z]
      exact Nat.le_succ _
    · rw [List.mem_singleton.mp z]
      exact Nat.le_refl _
  exact I1.fpOk lb (I1.hok.fresh lb)
theorem walk_enT {K : PySem.W.Frag} {a : Addr} {xs : List V} : Walk (IenT K a) xs.length (fun H => SqT K H a xs) (YPair (fun i => some (.int (i : Nat))) (fun i => xs[i]?)) where
  goes := fun i H hi q => ⟨xs, xs[i], q, List.getElem?_eq_getElem _⟩
  stops := fun H q => ⟨xs, q, rfl⟩
  yields := fun i H v H' hi q ⟨p, x, e1, e2, e3, f⟩ => ⟨p, .int (i : Nat), x, e1, e2, e3, rfl, f xs q⟩
/-- sorted of a tuple of texts -/
def rSoT (K : PySem.W.Frag) : List V → Hp → VK → Prop := fun vs H Q => ∃ (a : Addr) (xs : List Str), vs = [V.ref a] ∧ SqT K H a (xs.map V.str) ∧ xs.length < 64 ∧ ∀ (ys : List Str) (p : Addr), ys.Perm xs → sortedS ys = true → H p = none → Q (.ref p) (upd H p (.lst (ys.map V.str)))
theorem cr_soT {X : Cx} : CallR X (.builtin "sorted") (rSoT X.K) := by
  intro pins s σ H vs us Q I r hw
  obtain ⟨a, xs, rfl, hs, h64, q⟩ := hw
  obtain ⟨its, rv, ⟨o, ho, hc, n, hd⟩, hz⟩ := I.tuple hs
  rw [Vals.ref1 r]
  have hS := rv.strs
  have hlen := rv.length
  rw [List.length_map] at hlen
  refine Calls.call_function_entry kind_sorted plain_sorted entry_sorted (args_sorted1 _) ?_
  unfold Builtin.«sorted»
  refine wpAny_bind (m := checkCount "sorted" 1 1 _) (wpAny_pure ?_)
  refine wpAny_bind (wpAny_collect_seq a (.inr rfl) ho hc hd (fun h1 k1 => ?_) (by simp only [List.size_toArray]; have := small64 h64; omega))
  refine wpAny_bind (wpAny_newList ?_ (by have := small64 h64; simp; omega))
  have I1 : Inv X pins σ H { s with heap := h1 } := I.kept (t' := s.toks) k1
  have hoL : (h1.push (seqObj "list" its.toArray 0)).get? h1.objs.size = some (seqObj "list" its.toArray 0) := Heap.get?_push_size _ rfl
  show wpAny _ _ _ _ _ { s with heap := h1.push (seqObj "list" its.toArray 0) }
  refine wpAny_bind (wpAny_holding (wpAny_call_entry slot_list_sort ⟨_, hoL, rfl⟩ entry_list_sort ?body (args_list_sort _)))
  case body =>
    refine wpAny_mono (list_sort_treeK (s := { s with heap := h1.push (seqObj "list" its.toArray 0) }) (P := fun f s' => f = .done (.ret .none) ∧ ∃ (out : Array Value) (ys : List Str), StrsAre out.toList ys ∧ ys.Perm xs ∧ sortedS ys = true ∧ s' = { s with heap := sortedHeap (h1.push (seqObj "list" its.toArray 0)) h1.objs.size its out }) strKind_oneLt hoL hS.keysOf
      (fun v₁ v₂ rest e => keyKind_strs (by rw [← e]; exact hS)) (by omega) fun st' hp hs' => ?_) (fun f s' hf => ?_) fun _ _ e => e
    · obtain ⟨ys, y1, y2, y3⟩ := sorted_out_str hS hp hs'
      exact ⟨rfl, _, ys, y1, y2, y3, rfl⟩
    · obtain ⟨rfl, out, ys, y1, y2, y3, rfl⟩ := hf
      obtain ⟨ep, he⟩ := sortedHeap_at (vs := its) (out := out) hoL
      have hl : (ys.map V.str).length ≤ sizeLine := by
        rw [List.length_map, y2.length_eq]
        exact small64 h64
      refine ⟨.none, rfl, wpAny_pure ⟨_, rfl, .ref h1.objs.size, upd H h1.objs.size (.lst (ys.map V.str)), ?_, rfl, q ys _ y2 y3 (I1.hok.fresh (Nat.le_refl _))⟩⟩
      refine I1.laid (t' := s.toks) (fun b o' e => ?_) (Nat.le_refl _) ⟨hl, out.toList, ep, vals_of_strs y1, by simpa using he⟩
      have lt : b < h1.objs.size := Heap.lt_size e
      rw [sortedHeap_old (Nat.ne_of_lt lt) (by rw [Heap.size_push]; exact Nat.lt_succ_of_lt lt)]
      exact Heap.get?_push_of_some _ e
theorem cut_take (xs : List V) (n : Nat) : cutV xs none (some (n : Int)) = xs.take n := by
  unfold cutV
  rw [HT.sIx_none, HT.sIx_nat, List.drop_zero, Nat.sub_zero]
  rcases Nat.le_total n xs.length with h | h
  · rw [Nat.min_eq_left h]
  · rw [Nat.min_eq_right h, List.take_length, List.take_of_length_le h]
/-- data in a list of data, by what is equal -/
def rInP (K : PySem.W.Frag) : R2 := fun x y H Q => ∃ d ds, Dp K H x d ∧ Dp K H y (.list ds) ∧ PyData.plainAll ds = true ∧ d.plain = true ∧ d.depth ≤ 50 ∧ Q (.bl (ds.any fun e => PyData.eqv e d)) H
theorem op_inP {X : Cx} (hu : X.A.units + 64 < cLine) : OpR X (compareOp .In) (rInP X.K) := by
  intro pins s σ H x y v u Q I rx ry h
  obtain ⟨d, ds, hd, hds, p1, p2, dp, q⟩ := h
  obtain ⟨as, r1⟩ := Dp.reads I d x v hd rx
  obtain ⟨bs, r2⟩ := Dp.reads I (.list ds) y u hds ry
  exact SeqAt.in_list_data r2 r1 p1 p2 (by have := Nat.min_le_right (PyData.depthAll ds) d.depth; omega) ⟨.bl _, H, I, rfl, q⟩
def prS (r : Str × Str) : PyData := .tuple [.str r.1, .str r.2]
theorem prS_plain (r : Str × Str) : (prS r).plain = true := by simp [prS, PyData.plain, PyData.plainAll]
theorem prS_plainAll : ∀ rs : List (Str × Str), PyData.plainAll (rs.map prS) = true
  | [] => rfl
  | r :: rs => by
    rw [List.map_cons]
    simp only [PyData.plainAll, prS_plain, prS_plainAll rs, Bool.and_self]
theorem prS_depth (r : Str × Str) : (prS r).depth ≤ 50 := by
  simp [prS, PyData.depth, PyData.depthAll]
theorem prS_eqv (a b : Str × Str) : PyData.eqv (prS a) (prS b) = decide (a = b) := by
  have e : PyData.eqv (prS a) (prS b) = ((a.1 == b.1) && ((a.2 == b.2) && true)) := rfl
  rw [e]
  by_cases h1 : a.1 = b.1
  · by_cases h2 : a.2 = b.2
    · have : a = b := Prod.ext h1 h2
      subst this
      simp
    · have : ¬ a = b := fun q => h2 (q ▸ rfl)
      simp [h2, this]
  · have : ¬ a = b := fun q => h1 (q ▸ rfl)
    simp [h1, this]
theorem nl_prS (r : Str × Str) : nl (prS r) = true := by simp [prS, nl, nlA]
theorem take_not {α : Type} {l : List α} {i : Nat} {x : α} (nd : l.Nodup) (h : l[i]? = some x) : x ∉ l.take i := by
  intro hm
  obtain ⟨j, hj, e⟩ := List.mem_iff_getElem.mp hm
  rw [List.length_take] at hj
  rw [List.getElem_take] at e
  have h1 : l[j]? = some x := by
    rw [← e]
    exact List.getElem?_eq_getElem _
  have := nd_ix nd h1 h
  omega
theorem dpa_take {K : PySem.W.Frag} {H : Hp} : ∀ (i : Nat) {vs : List V} {ds : List PyData}, DpAll K H vs ds → DpAll K H (vs.take i) (ds.take i)
  | 0, _, _, _ => .nil
  | i + 1, _, _, .nil => .nil
  | i + 1, _, _, .cons a t => .cons a (dpa_take i t)
/-! ### names -/
def lowCps : List Nat := List.range' 97 26
def namCps : List Nat := List.range' 97 26 ++ List.range' 48 10
structure NameOk (z : Str) : Prop where
  l1 : 1 ≤ z.cps.size
  l2 : z.cps.size ≤ 12
  hd : ∃ c, z.cps[0]? = some c ∧ c ∈ lowCps
  ch : ∀ (i : Nat) c, z.cps[i]? = some c → c ∈ namCps
theorem nam_in : ∀ c ∈ namCps, (!(Builtin.Str.occurrences (Str.ofString "abcdefghijklmnopqrstuvwxyz0123456789") ⟨#[c]⟩ 0 (Str.ofString "abcdefghijklmnopqrstuvwxyz0123456789").length 1).isEmpty) = true := by decide +kernel
theorem low_no : ∀ c ∈ lowCps, (!(Builtin.Str.occurrences (Str.ofString "0123456789") ⟨#[c]⟩ 0 (Str.ofString "0123456789").length 1).isEmpty) = false := by decide +kernel
section
variable {P : Program} {w : World} {K : PySem.W.Frag} {mg : Str → Option Value} {base : Heap}
def spIsName (K : PySem.W.Frag) : Sp := fun vs H Q _ => ∃ z : Str, vs = [.str z] ∧ NameOk z ∧ ∀ H', Same H H' → Q (.bl true) H'
theorem scIsName : FnScope ["text", "char"] ["text"] (defScope sIsName) := ⟨rfl, rfl, rfl, by decide +kernel, rfl, by decide +kernel, by decide +kernel⟩
theorem ok_is_name (T : Txt K mg) : Has P w K mg base 1 "is_name" ["text"] (spIsName K) := by
  refine has_of T.dIsName T.gIsName scIsName (fun vs H Q E h => by obtain ⟨z, rfl, _⟩ := h; rfl) (fun _ _ _ _ _ _ us hl => match us, hl with | [_], _ => rfl) fun cdv A outer s H vs Q E hr h => ?_
  obtain ⟨z, rfl, ok, k⟩ := h
  obtain ⟨t1, e1⟩ := T.iMostNameChars
  obtain ⟨t2, e2⟩ := T.sNameChars
  have l1 := ok.l1
  have l2 := ok.l2
  have lz : z.length ≤ sizeLine := Nat.le_of_lt (small1000 (by show z.cps.size ≤ 1000; omega))
  obtain ⟨c0, hc0, hc1⟩ := ok.hd
  refine ⟨_, pss_cons (ps_if (PW.pt (pw_or (pt_not (pt_chain op_le op_le pe_int (pe_callB call_len_str (by rfl) T.fLen PySem.boot_len (pa_cons (pv 0) pa_nil)) (pe_glob (v := .int 12) rfl e1 ⟨t1, rfl⟩)))
      (pw_or1 (pt_cmpR op_in_str (pe_ix ix_str (pv 0) pe_int (fun _ _ => rfl)) pe_str (by rfl))))) (pss_one (ps_ret pe_bl)) pss_nil)
    (pss_one (ps_ret (pe_callB (cr_all rfl) (by rfl) T.fAll (by decide +kernel) (pa_cons (pe_lc (own := [("char", 1)]) (g := gName 1) (by rfl) scIsName.nd (pi_str (pv 0)) (blkOk_by (N := ["text", "char"]) (sc := defScope sIsName) (by decide +kernel))
      (fun _ _ _ _ _ => pg_name (i := 1) scIsName.nd rfl (Or.inl rfl)) (fun _ _ _ _ _ => pts_nil) (fun _ _ _ _ _ => pe_cmpR op_in_str (pv 1) (pe_glob (v := .str "abcdefghijklmnopqrstuvwxyz0123456789") rfl e2 ⟨t2, rfl⟩) (by rfl))) pa_nil)))), ?_⟩
  refine ⟨_, rfl, z, rfl, lz, 1, (z.cps.size : Int), rfl, rfl, true, ?_, iteT ?_⟩
  · show V.bl (decide ((1 : Int) ≤ (z.cps.size : Int))) = V.bl true
    rw [decide_eq_true (by omega)]
  refine ⟨(z.cps.size : Int), 12, rfl, rfl, true, ?_, iteF ?_⟩
  · show V.bl (decide ((z.cps.size : Int) ≤ (12 : Int))) = V.bl true
    rw [decide_eq_true (by omega)]
  refine ⟨_, rfl, z, 0, c0, rfl, rfl, lz, atI_nat (j := 0) (by simpa using hc0), ⟨#[c0]⟩, _, rfl, rfl, false, by rw [low_no c0 hc1], iteF ?_⟩
  refine ⟨_, rfl, z, rfl, fun D hD => lc_data (K := K) walk_str hD (fun i => List.replicate i (PyData.bool true)) rfl (fun i hi => ?_) (fun H' e => trivial) ?_ ?_⟩
  · rw [List.length_replicate]
    exact small1000 (by omega)
  · rintro i x H1 H2 N hi s1 ⟨rfl, c, hc, rfl⟩ kY kN
    refine ⟨rfl, _, rfl, _, _, rfl, rfl, ?_⟩
    rw [nam_in c (ok.ch i c hc)]
    exact kY _ _ (.bool true) (Same.refl _) (.bl _) rfl List.replicate_succ'
  · intro H1 s1 hls
    obtain ⟨acc, hA, hdp, _⟩ := hls
    have ea : acc = (List.replicate z.cps.size true).map V.bl := dpa_bools (by rw [List.map_replicate]; exact hdp)
    subst ea
    refine ⟨D, _, rfl, SqL.of hA, ?_⟩
    rw [all_rep]
    exact k H1 s1
def spAreDifferent (K : PySem.W.Frag) : Sp := fun vs H Q _ => ∃ a : Addr, vs = [.ref a] ∧ ((∃ ss : List Str, SqT K H a (ss.map V.str) ∧ ss.Nodup ∧ ss.length ≤ 900) ∨ ∃ rs : List (Str × Str), Dp K H (.ref a) (.list (rs.map prS)) ∧ rs.Nodup ∧ rs.length ≤ 900) ∧
  ∀ H', Same H H' → Q (.bl true) H'
theorem scAreDifferent : FnScope ["parts", "number", "part"] ["parts"] (defScope sAreDifferent) := ⟨rfl, rfl, rfl, by decide +kernel, rfl, by decide +kernel, by decide +kernel⟩
theorem ok_are_different (T : Txt K mg) : Has P w K mg base 1 "are_different" ["parts"] (spAreDifferent K) := by
  refine has_of T.dAreDifferent T.gAreDifferent scAreDifferent (fun vs H Q E h => by obtain ⟨a, rfl, _⟩ := h; rfl) (fun _ _ _ _ _ _ us hl => match us, hl with | [_], _ => rfl) fun cdv A outer s H vs Q E hr h => ?_
  obtain ⟨a, rfl, h, k⟩ := h
  rcases h with ⟨ss, hs, nd, sz⟩ | ⟨rs, hd, nd, sz⟩
  · refine ⟨_, pss_cons (ps_for PassesOwn.never rfl (pi_enT (by rfl) T.fEnumerate (pa_cons (pv 0) pa_nil)) (pg_tup rfl (pgs_cons (pg_name (i := 1) scAreDifferent.nd rfl (.inl rfl)) (pgs_cons (pg_name (i := 2) scAreDifferent.nd rfl (.inl rfl)) pgs_nil)))
      (pss_one (ps_if (pt_cmpR op_in_seq (pv 2) (pe_slice sl_tup (pv 0) po_none (po_some (pv 1))) (by rfl)) (pss_one (ps_ret pe_bl)) pss_nil))) (pss_one (ps_ret pe_bl)), ?_⟩
    refine ⟨_, rfl, a, _, rfl, hs, for_it walk_enT (fun i σ H' => Same H H' ∧ ∃ u1 u2, σ = [some (.ref a), u1, u2]) ⟨Same.refl _, none, none, rfl⟩ (fun i σ H' _ q => sm_tup q.1 hs) ?_ ?_⟩
    · rintro i x σ Ha Hb hi ⟨t1, u1, u2, rfl⟩ ⟨Tp, x1, x2, rfl, hT, rfl, hx1, hx2⟩
      cases hx1
      obtain ⟨z, h3, rfl⟩ := get_map hx2
      have li : i < ss.length := (List.getElem?_eq_some_iff.mp h3).1
      have e1 : Same Ha (upd Ha Tp (.tup [.int (i : Nat), .str z])) := sm_up hT
      refine ⟨Tp, _, rfl, SqT.of upd_same, rfl, _, _, rfl, _, _, rfl, rfl, ?_⟩
      refine ⟨_, rfl, _, rfl, _, rfl, (i : Int), rfl, a, ss.map V.str, rfl, sm_tup (t1.trans e1) hs, ?_, fun p hp => ?_⟩
      · rintro ⟨_, q⟩
        rw [HT.sIx_nat, List.length_map] at q
        omega
      · rw [cut_take]
        refine ⟨p, _, rfl, .inr (SqT.of upd_same), rfl, ?_, false, ?_, iteF ⟨(t1.trans e1).trans (sm_up hp), _, _, rfl⟩⟩
        · rw [← List.map_take]
          exact flat_strs _
        · rw [← List.map_take, inV_str, decide_eq_false (take_not nd h3)]
          rfl
    · rintro σ Ha ⟨t1, u1, u2, rfl⟩
      exact k Ha t1
  · obtain ⟨a', xs, ea, hs, hds⟩ := dp_lst hd
    cases ea
    have xl : xs.length = rs.length := by rw [dpa_len hds, List.length_map]
    refine ⟨_, pss_cons (ps_for PassesOwn.never rfl (pi_enum (by rfl) T.fEnumerate (pa_cons (pv 0) pa_nil)) (pg_tup rfl (pgs_cons (pg_name (i := 1) scAreDifferent.nd rfl (.inl rfl)) (pgs_cons (pg_name (i := 2) scAreDifferent.nd rfl (.inl rfl)) pgs_nil)))
      (pss_one (ps_if (pt_cmpR (op_inP hr.units) (pv 2) (pe_slice sl_list (pv 0) po_none (po_some (pv 1))) (by rfl)) (pss_one (ps_ret pe_bl)) pss_nil))) (pss_one (ps_ret pe_bl)), ?_⟩
    refine ⟨_, rfl, a, _, rfl, hs, for_it walk_enum (fun i σ H' => Same H H' ∧ ∃ u1 u2, σ = [some (.ref a), u1, u2]) ⟨Same.refl _, none, none, rfl⟩ (fun i σ H' _ q => q.1.seq hs) ?_ ?_⟩
    · rintro i x σ Ha Hb hi ⟨t1, u1, u2, rfl⟩ ⟨Tp, x1, x2, rfl, hT, rfl, hx1, hx2⟩
      cases hx1
      obtain ⟨d, h1, h2⟩ := dpa_get hds hx2
      obtain ⟨r, h3, rfl⟩ := get_map h1
      have e1 : Same Ha (upd Ha Tp (.tup [.int (i : Nat), x2])) := sm_up hT
      refine ⟨Tp, _, rfl, SqT.of upd_same, rfl, _, _, rfl, _, _, rfl, rfl, ?_⟩
      refine ⟨_, rfl, _, rfl, _, rfl, (i : Int), rfl, a, xs, rfl, (t1.trans e1).seq hs, fun p hp => ?_⟩
      have e2 := (t1.trans e1).trans (sm_up (o := .lst (cutV xs none (some (i : Int)))) hp)
      refine ⟨prS r, (rs.take i).map prS, dp_sm e2 _ _ h2, ?_, prS_plainAll _, prS_plain _, prS_depth _, false, ?_, iteF ⟨e2, _, _, rfl⟩⟩
      · refine .lst (SqL.of upd_same) ?_
        have q := dpa_take i (dpa_sm e2 _ _ hds)
        rw [← cut_take, ← List.map_take] at q
        exact q
      · have : ((rs.take i).map prS).any (fun e => PyData.eqv e (prS r)) = false := by
          rw [List.any_map, List.any_eq_false]
          intro r' hr'
          show ¬ PyData.eqv (prS r') (prS r) = true
          rw [prS_eqv]
          intro q
          exact take_not nd h3 (of_decide_eq_true q ▸ hr')
        rw [this]
    · rintro σ Ha ⟨t1, u1, u2, rfl⟩
      exact k Ha t1
end
/-! ### a chain of four -/
def tChain3 (r1 r2 r3 : R2) (ta tb tc td : TE) : TE := fun σ H Q => ta σ H fun x H1 => tb σ H1 fun y H2 => r1 x y H2 fun z H3 => ∃ k, z = .bl k ∧
  (if k = true then tc σ H3 fun y2 H4 => r2 y y2 H4 fun z2 H5 => ∃ k2, z2 = .bl k2 ∧ (if k2 = true then td σ H5 fun y3 H6 => r3 y2 y3 H6 Q else Q (.bl false) H5) else Q (.bl false) H3)
theorem pe_chain3 {X : Cx} {a b c d : Expr} {pos : Pos} {ta tb tc td : TE} {o1 o2 o3 : CmpOp} {r1 r2 r3 : R2} (p1 : OpR X (compareOp o1) r1) (p2 : OpR X (compareOp o2) r2) (p3 : OpR X (compareOp o3) r3) (ha : PE X a ta) (hb : PE X b tb) (hc : PE X c tc) (hd : PE X d td)
    (hm : lastMarks [o1, o2, o3] [b, c, d] = false := by with_unfolding_all rfl) : PE X (.Compare a [o1, o2, o3] [b, c, d] pos) (tChain3 r1 r2 r3 ta tb tc td) := by
  refine ⟨fun pins s σ H Q I hw => ?_⟩
  refine Compare_chain (thn (ha.run pins s σ H _ I hw) fun v s1 ⟨x, H1, I1, g1, q1⟩ => chain_link (thn (hb.run pins s1 σ H1 _ I1 q1) fun u s2 ⟨y, H2, I2, g2, q2⟩ =>
    thn (p1 pins s2 σ H2 x y v u _ I2 g1 g2 q2) fun w3 s3 ⟨z, H3, I3, g3, k, ek, q3⟩ => ?_)) hm
  subst ek
  cases g3
  refine wpAny_truthy_bool ?_
  cases k with
  | false => exact ite_ff ⟨.bl false, H3, I3, rfl, q3⟩
  | true =>
    refine ite_tt (chain_link (thn (hc.run pins s3 σ H3 _ I3 q3) fun u4 s4 ⟨y4, H4, I4, g4, q4⟩ => thn (p2 pins s4 σ H4 y y4 u u4 _ I4 g2 g4 q4) fun w5 s5 ⟨z5, H5, I5, g5, k5, ek5, q5⟩ => ?_))
    subst ek5
    cases g5
    refine wpAny_truthy_bool ?_
    cases k5 with
    | false => exact ite_ff ⟨.bl false, H5, I5, rfl, q5⟩
    | true => exact ite_tt (chain_last (thn (hd.run pins s5 σ H5 _ I5 q5) fun u6 s6 ⟨y6, H6, I6, g6, q6⟩ => p3 pins s6 σ H6 y4 y6 u4 u6 Q I6 g4 g6 q6))
section
variable {P : Program} {w : World} {K : PySem.W.Frag} {mg : Str → Option Value} {base : Heap}
/-! ### checked_times, checked_link, checked_path -/
def prOk : Pr → Prop
  | none => True
  | some (l, h) => 1 ≤ l ∧ l ≤ h ∧ h ≤ 1000
def spCheckedTimes (K : PySem.W.Frag) : Sp := fun vs H Q _ => ∃ (v : V) (ts : List Pr), vs = [v, .int (ts.length : Nat)] ∧ Dp K H v (.tuple (ts.map prD)) ∧ ts.length ≤ 900 ∧ (∀ t ∈ ts, prOk t) ∧ ∀ v' H', Same H H' → Dp K H' v' (.tuple (ts.map prD)) → Q v' H'
abbrev nmCheckedTimes : List Str := ["times", "many", "found", "pair"]
theorem scCheckedTimes : FnScope nmCheckedTimes ["times", "many"] (defScope sCheckedTimes) := ⟨rfl, rfl, rfl, by decide +kernel, rfl, by decide +kernel, by decide +kernel⟩
theorem ok_checked_times (T : Txt K mg) : Has P w K mg base 2 "checked_times" ["times", "many"] (spCheckedTimes K) := by
  have G : Has P w K mg base 1 "require" ["holds"] spRequire := ok_require T
  refine has_of T.dCheckedTimes T.gCheckedTimes scCheckedTimes (fun vs H Q E h => by obtain ⟨v, ts, rfl, _⟩ := h; rfl) (fun _ _ _ _ _ _ us hl => match us, hl with | [_, _], _ => rfl) fun cdv A outer s H vs Q E hr h => ?_
  obtain ⟨v, ts, rfl, hv, tz, ok, k⟩ := h
  obtain ⟨t1, e1⟩ := T.iMostMinutes
  obtain ⟨a, xs, rfl, hS, hd⟩ := dp_tup hv
  have xl : xs.length = ts.length := by rw [dpa_len hd, List.length_map]
  refine ⟨_, pss_cons (ps_expr (pe_f G hr (by rfl) (pa_cons (pe_cmpR op_eq (pe_callB call_len_seq (by rfl) T.fLen PySem.boot_len (pa_cons (pv 0) pa_nil)) (pv 1) (nomark _)) pa_nil)))
    (pss_cons (ps_set (i := 2) scCheckedTimes.nd rfl (.inl rfl) (pe_lst pa_nil))
    (pss_cons (ps_for PassesOwn.never rfl (pi_tup (pv 0)) (pg_name (i := 3) scCheckedTimes.nd rfl (.inl rfl))
      (pss_cons (ps_if (pt_cmp (pc_notN (pv 3)))
        (pss_cons (ps_expr (pe_f G hr (by rfl) (pa_cons (pe_and (pe_cmpR op_eq (pe_callB call_len_seq (by rfl) T.fLen PySem.boot_len (pa_cons (pv 3) pa_nil)) pe_int (nomark _))
            (pe_one (pe_chain3 op_le op_le op_le pe_int (pe_ix ix_tup (pv 3) pe_int (fun _ _ => rfl)) (pe_ix ix_tup (pv 3) pe_int (fun _ _ => rfl)) (pe_glob (v := .int 1000) rfl e1 ⟨t1, rfl⟩)))) pa_nil)))
          (pss_one (ps_set (i := 3) scCheckedTimes.nd rfl (.inl rfl) (pe_callTy call_tuple_of (by rfl) T.fTuple (by decide +kernel) (pa_cons (pv 3) pa_nil))))) pss_nil)
      (pss_one (ps_expr (pe_bm PySem.F.plainAttrs_list PySem.F.slot_list_append PySem.F.type_list_append mt_append (pv 2) (pa_cons (pv 3) pa_nil))))))
    (pss_one (ps_ret (pe_callTy call_tuple_of (by rfl) T.fTuple (by decide +kernel) (pa_cons (pv 2) pa_nil)))))), ?_⟩
  refine ⟨_, rfl, a, xs, rfl, .inr hS, _, rfl, rfl, ?_⟩
  have el : decide (V.int (xs.length : Int) = V.int ((ts.length : Nat) : Int)) = true := decide_eq_true (by rw [xl])
  refine ⟨congrArg (fun b => [V.bl b]) el, ?_⟩
  refine ⟨Nat.zero_le _, fun D hD => ?_⟩
  have s0 : Same H (upd H D (.lst [])) := sm_up hD
  refine ⟨_, rfl, a, rfl, ⟨_, sm_tup s0 hS⟩, for_tup (K := K) (a := a) (xs := xs) (fun i σ H' => Same H H' ∧ (∃ u, σ = [some (.ref a), some (.int (ts.length : Nat)), some (.ref D), u]) ∧ LsAt K H' D ((ts.take i).map prD)) ⟨s0, ⟨_, rfl⟩, [], upd_same, .nil, rfl⟩ (fun i σ H' _ q => sm_tup q.1 hS) ?_ ?_⟩
  · rintro i x σ Ha hx ⟨t1, ⟨u, rfl⟩, acc, h1, h2, h3⟩
    obtain ⟨d, g1, g2⟩ := dpa_get hd hx
    obtain ⟨q, g3, rfl⟩ := get_map g1
    have qo := ok q (List.mem_of_getElem? g3)
    have g4 := dp_sm t1 _ _ g2
    have fin : ∀ y, Dp K Ha y (prD q) → LsAt K (upd Ha D (.lst (acc ++ [y]))) D ((ts.take (i + 1)).map prD) := fun y hy => by
      rw [take_snoc g3, List.map_append]
      exact lsAt_app h1 h2 h3 hy (nl_pr q)
    have al : acc.length < sizeLine := by
      rw [dpa_len h2, List.length_map, List.length_take]
      exact small1000 (by omega)
    cases q with
    | none =>
      obtain rfl := dp_non g4
      refine ⟨_, rfl, false, rfl, iteF ?_⟩
      exact ⟨_, rfl, .inl ⟨rfl, _, SqL.of h1⟩, _, rfl, D, acc, _, rfl, rfl, h1, al, sm_mut t1 hD, ⟨_, rfl⟩, fin _ g4⟩
    | some q =>
      obtain ⟨lo, hi⟩ := q
      obtain ⟨b, y1, y2, rfl, hb, hy1, hy2⟩ := dp_tup2 g4
      obtain rfl := dp_int hy1
      obtain rfl := dp_int hy2
      obtain ⟨o1, o2, o3⟩ := qo
      refine ⟨_, rfl, true, rfl, iteT ?_⟩
      refine ⟨_, rfl, b, _, rfl, .inr hb, rfl, true, rfl, iteT ?_⟩
      refine ⟨_, rfl, b, _, 0, _, rfl, rfl, hb, rfl, _, _, rfl, rfl, true, ?_, iteT ?_⟩
      · show V.bl (decide (1 ≤ lo)) = V.bl true
        rw [decide_eq_true o1]
      refine ⟨_, rfl, b, _, 1, _, rfl, rfl, hb, rfl, _, _, rfl, rfl, true, ?_, iteT ?_⟩
      · show V.bl (decide (lo ≤ hi)) = V.bl true
        rw [decide_eq_true o2]
      refine ⟨_, _, rfl, rfl, ?_⟩
      refine ⟨congrArg (fun b => [V.bl b]) (decide_eq_true o3), ?_⟩
      refine ⟨_, rfl, b, _, rfl, .inr ⟨hb, ?_⟩⟩
      exact ⟨_, rfl, .inl ⟨rfl, _, SqL.of h1⟩, _, rfl, D, acc, _, rfl, rfl, h1, al, sm_mut t1 hD, ⟨_, rfl⟩, fin _ g4⟩
  · rintro σ Ha ⟨t1, ⟨u, rfl⟩, acc, h1, h2, h3⟩
    rw [xl, List.take_length] at h2
    refine ⟨_, rfl, D, acc, rfl, .inl ⟨SqL.of h1, fun p hp => ?_⟩⟩
    have s2 : Same Ha (upd Ha p (.tup acc)) := sm_up hp
    exact k _ _ (t1.trans s2) (.tup (SqT.of upd_same) (dpa_sm s2 _ _ h2))
/-- a land in the making: its winds and places stand -/
def HalfAt (K : PySem.W.Frag) (H : Hp) (p : Addr) (winds places : List Str) : Prop := ∃ dx fs wd pl, H p = some (.ins (CL K) dx fs) ∧ fs.lookup ("winds" : Str) = some (.ref wd) ∧ TupN H wd (winds.map V.str) ∧ fs.lookup ("places" : Str) = some (.ref pl) ∧ SqT K H pl (places.map V.str) ∧
  fs.lookup ("are_ends" : Str) = none ∧ fs.lookup ("checked_link" : Str) = none ∧ fs.lookup ("checked_path" : Str) = none
theorem half_sm {H H' : Hp} (e : Same H H') {p : Addr} {ws ps : List Str} (h : HalfAt K H p ws ps) : HalfAt K H' p ws ps := by
  obtain ⟨dx, fs, wd, pl, h1, h2, h3, h4, h5, h6⟩ := h
  exact ⟨dx, fs, wd, pl, e _ _ h1, h2, tupN_sm e h3, h4, sm_tup e h5, h6⟩
def spCheckedLink (K : PySem.W.Frag) : Sp := fun vs H Q _ => ∃ (p : Addr) (ws ps : List Str) (l : Lk) (v : V), vs = [.ref p, v] ∧ HalfAt K H p ws ps ∧ ws.length ≤ 4 ∧ Dp K H v (lkD l) ∧ NameOk l.nm ∧ LkOk ws ps l ∧ ∀ v' H', Same H H' → Dp K H' v' (lkD l) → Q v' H'
abbrev nmCheckedLink : List Str := ["self", "link", "name", "one", "other", "times"]
theorem scCheckedLink : FnScope nmCheckedLink ["self", "link"] (defScope sCheckedLink) := ⟨rfl, rfl, rfl, by decide +kernel, rfl, by decide +kernel, by decide +kernel⟩
theorem ok_checked_link (T : Txt K mg) : HasM P w K mg base 3 "checked_link" ["self", "link"] (spCheckedLink K) := by
  have G : Has P w K mg base 1 "require" ["holds"] spRequire := ok_require T
  have Gn : Has P w K mg base 1 "is_name" ["text"] (spIsName K) := ok_is_name T
  have Gt : Has P w K mg base 2 "checked_times" ["times", "many"] (spCheckedTimes K) := ok_checked_times T
  have Ge : HasM P w K mg base 1 "are_ends" ["self", "one", "other"] (spAreEnds K) := ok_are_ends T
  refine hasM_of T.dCheckedLink T.mCheckedLink T.cl scCheckedLink (fun vs H Q E h => by obtain ⟨p, ws, ps, l, v, rfl, _⟩ := h; rfl) (fun _ _ _ _ _ _ us hl => match us, hl with | [_, _], _ => rfl) fun cdv A outer s H vs Q E hr h => ?_
  obtain ⟨p, ws, ps, l, v, rfl, hf, w4, hv, hn, lo, k⟩ := h
  obtain ⟨a, xs, rfl, hS, hd⟩ := dp_tup hv
  obtain ⟨x1, x2, x3, x4, rfl, d1, d2, d3, d4⟩ := dpa_4 hd
  obtain rfl := dp_str d1
  obtain rfl := dp_str d2
  obtain rfl := dp_str d3
  refine ⟨_, pss_cons (ps_expr (pe_f G hr (by rfl) (pa_cons (pe_cmpR op_eq (pe_callB call_len_seq (by rfl) T.fLen PySem.boot_len (pa_cons (pv 1) pa_nil)) pe_int (nomark _)) pa_nil)))
    (pss_cons (ps_asg (pv 1) (pg_tup rfl (pgs_cons (pg_name (i := 2) scCheckedLink.nd rfl (.inl rfl)) (pgs_cons (pg_name (i := 3) scCheckedLink.nd rfl (.inl rfl)) (pgs_cons (pg_name (i := 4) scCheckedLink.nd rfl (.inl rfl)) (pgs_cons (pg_name (i := 5) scCheckedLink.nd rfl (.inl rfl)) pgs_nil))))))
    (pss_cons (ps_expr (pe_f G hr (by rfl) (pa_cons (pe_and (pe_f Gn hr (by rfl) (pa_cons (pv 2) pa_nil)) (pe_one (pe_m (pv 0) Ge hr (pa_cons (pv 3) (pa_cons (pv 4) pa_nil))))) pa_nil)))
    (pss_one (ps_ret (pe_tup (pa_cons (pv 2) (pa_cons (pv 3) (pa_cons (pv 4) (pa_cons (pe_f Gt hr (by rfl) (pa_cons (pv 5) (pa_cons (pe_callB call_len_seq (by rfl) T.fLen PySem.boot_len (pa_cons (pe_fld (pv 0) rfl) pa_nil)) pa_nil))) pa_nil))))))))), ?_⟩
  refine ⟨_, rfl, a, _, rfl, .inr hS, rfl, ?_⟩
  refine ⟨rfl, ?_⟩
  refine ⟨_, rfl, a, _, rfl, hS, rfl, _, _, rfl, _, _, rfl, _, _, rfl, _, _, rfl, rfl, ?_⟩
  refine ⟨_, rfl, l.nm, rfl, hn, fun H1 s1 => ?_⟩
  obtain ⟨dx, fs, wd, pl, hp, f1, f2, f3, f4, f5, f6, f7⟩ := half_sm s1 hf
  refine ⟨true, rfl, iteT ⟨_, rfl, p, dx, fs, rfl, hp, f5, _, rfl, _, rfl, p, dx, fs, pl, ps, l.one, l.oth, rfl, hp, f3, f4, lo.one, lo.oth, lo.ne, ?_⟩⟩
  refine ⟨rfl, ?_⟩
  refine ⟨_, rfl, _, rfl, _, rfl, _, rfl, _, rfl, p, CL K, dx, fs, _, rfl, hp, T.cl, T.nWinds, f1, wd, _, rfl, .inr (tupN_sq f2), x4, l.ts, ?_, dp_sm s1 _ _ d4, by have := lo.ts; omega, fun t ht => ?_, fun v' H2 s2 hv' => ⟨(by show 4 ≤ sizeLine; decide), fun q hq => ?_⟩⟩
  · rw [List.length_map, lo.ts]
    rfl
  · cases t with
    | none => exact trivial
    | some t => exact lo.bd t.1 t.2 ht
  · have s3 := sm_up (o := .tup [.str l.nm, .str l.one, .str l.oth, v']) hq
    exact k _ _ ((s1.trans s2).trans s3) (.tup (SqT.of upd_same) (.cons (.str _) (.cons (.str _) (.cons (.str _) (.cons (dp_sm s3 _ _ hv') .nil)))))
structure PaOk (places : List Str) (p : Pa) : Prop where
  one : p.one ∈ places
  oth : p.oth ∈ places
  ne : p.one ≠ p.oth
  m1 : 1 ≤ p.min
  m2 : p.min ≤ 1000
def spCheckedPath (K : PySem.W.Frag) : Sp := fun vs H Q _ => ∃ (p : Addr) (ws ps : List Str) (l : Pa) (v : V), vs = [.ref p, v] ∧ HalfAt K H p ws ps ∧ Dp K H v (paD l) ∧ PaOk ps l ∧ ∀ v' H', Same H H' → Dp K H' v' (paD l) → Q v' H'
abbrev nmCheckedPath : List Str := ["self", "path", "one", "other", "minutes"]
theorem scCheckedPath : FnScope nmCheckedPath ["self", "path"] (defScope sCheckedPath) := ⟨rfl, rfl, rfl, by decide +kernel, rfl, by decide +kernel, by decide +kernel⟩
theorem ok_checked_path (T : Txt K mg) : HasM P w K mg base 2 "checked_path" ["self", "path"] (spCheckedPath K) := by
  have G : Has P w K mg base 1 "require" ["holds"] spRequire := ok_require T
  have Ge : HasM P w K mg base 1 "are_ends" ["self", "one", "other"] (spAreEnds K) := ok_are_ends T
  refine hasM_of T.dCheckedPath T.mCheckedPath T.cl scCheckedPath (fun vs H Q E h => by obtain ⟨p, ws, ps, l, v, rfl, _⟩ := h; rfl) (fun _ _ _ _ _ _ us hl => match us, hl with | [_, _], _ => rfl) fun cdv A outer s H vs Q E hr h => ?_
  obtain ⟨p, ws, ps, l, v, rfl, hf, hv, lo, k⟩ := h
  obtain ⟨t1, e1⟩ := T.iMostMinutes
  obtain ⟨a, xs, rfl, hS, hd⟩ := dp_tup hv
  obtain ⟨x1, x2, x3, rfl, d1, d2, d3⟩ := dpa_3 hd
  obtain rfl := dp_str d1
  obtain rfl := dp_str d2
  obtain rfl := dp_int d3
  refine ⟨_, pss_cons (ps_expr (pe_f G hr (by rfl) (pa_cons (pe_cmpR op_eq (pe_callB call_len_seq (by rfl) T.fLen PySem.boot_len (pa_cons (pv 1) pa_nil)) pe_int (nomark _)) pa_nil)))
    (pss_cons (ps_asg (pv 1) (pg_tup rfl (pgs_cons (pg_name (i := 2) scCheckedPath.nd rfl (.inl rfl)) (pgs_cons (pg_name (i := 3) scCheckedPath.nd rfl (.inl rfl)) (pgs_cons (pg_name (i := 4) scCheckedPath.nd rfl (.inl rfl)) pgs_nil)))))
    (pss_cons (ps_expr (pe_f G hr (by rfl) (pa_cons (pe_and (pe_m (pv 0) Ge hr (pa_cons (pv 2) (pa_cons (pv 3) pa_nil))) (pe_one (pe_chain op_le op_le pe_int (pv 4) (pe_glob (v := .int 1000) rfl e1 ⟨t1, rfl⟩)))) pa_nil)))
    (pss_one (ps_ret (pe_tup (pa_cons (pv 2) (pa_cons (pv 3) (pa_cons (pv 4) pa_nil)))))))), ?_⟩
  refine ⟨_, rfl, a, _, rfl, .inr hS, rfl, ?_⟩
  refine ⟨rfl, ?_⟩
  refine ⟨_, rfl, a, _, rfl, hS, rfl, _, _, rfl, _, _, rfl, _, _, rfl, rfl, ?_⟩
  obtain ⟨dx, fs, wd, pl, hp, f1, f2, f3, f4, f5, f6, f7⟩ := hf
  refine ⟨_, rfl, p, dx, fs, rfl, hp, f5, _, rfl, _, rfl, p, dx, fs, pl, ps, l.one, l.oth, rfl, hp, f3, f4, lo.one, lo.oth, lo.ne, true, rfl, iteT ?_⟩
  refine ⟨_, rfl, _, _, rfl, rfl, true, ?_, iteT ?_⟩
  · show V.bl (decide (1 ≤ l.min)) = V.bl true
    rw [decide_eq_true lo.m1]
  refine ⟨_, _, rfl, rfl, congrArg (fun b => [V.bl b]) (decide_eq_true lo.m2), ?_⟩
  refine ⟨_, rfl, _, rfl, _, rfl, (by show 3 ≤ sizeLine; decide), fun q hq => ?_⟩
  exact k _ _ (sm_up hq) (.tup (SqT.of upd_same) (.cons (.str _) (.cons (.str _) (.cons (.int _) .nil))))
end
def rSoTK (K : PySem.W.Frag) : List V → Hp → VK → Prop := rSoT K
theorem soT_ (K : PySem.W.Frag) {X : Cx} (h : X.K = K := by rfl) : CallR X (.builtin "sorted") (rSoT K) := h ▸ cr_soT
def f1L (w : Addr) : List (Str × V) := [("winds", .ref w)]
def f2L (w pl : Addr) : List (Str × V) := [("winds", .ref w), ("places", .ref pl)]
def f3L (w pl l : Addr) : List (Str × V) := [("winds", .ref w), ("places", .ref pl), ("links", .ref l)]
theorem put1 (w : Addr) : putF ("winds" : Str) (.ref w) [] = f1L w := rfl
theorem put2 (w pl : Addr) : putF ("places" : Str) (.ref pl) (f1L w) = f2L w pl := by
  have h : (("winds" : Str) = ("places" : Str)) = False := by decide +kernel
  simp [putF, f1L, f2L, h]
theorem put3 (w pl l : Addr) : putF ("links" : Str) (.ref l) (f2L w pl) = f3L w pl l := by
  have h : (("winds" : Str) = ("links" : Str)) = False := by decide +kernel
  have h2 : (("places" : Str) = ("links" : Str)) = False := by decide +kernel
  simp [putF, f2L, f3L, h, h2]
theorem put4 (w pl l pa : Addr) : putF ("paths" : Str) (.ref pa) (f3L w pl l) = lf w pl l pa := by
  have h : (("winds" : Str) = ("paths" : Str)) = False := by decide +kernel
  have h2 : (("places" : Str) = ("paths" : Str)) = False := by decide +kernel
  have h3 : (("links" : Str) = ("paths" : Str)) = False := by decide +kernel
  simp [putF, lf, f3L, h, h2, h3]
theorem f2_w (w pl : Addr) : (f2L w pl).lookup ("winds" : Str) = some (.ref w) := lk_here
theorem f2_p (w pl : Addr) : (f2L w pl).lookup ("places" : Str) = some (.ref pl) := (lk_past (by decide +kernel)).trans lk_here
theorem f2_no {w pl : Addr} {m : Str} (h1 : (m == ("winds" : Str)) = false) (h2 : (m == ("places" : Str)) = false) : (f2L w pl).lookup m = none := (lk_past h1).trans ((lk_past h2).trans rfl)
theorem f3_w (w pl l : Addr) : (f3L w pl l).lookup ("winds" : Str) = some (.ref w) := lk_here
theorem f3_p (w pl l : Addr) : (f3L w pl l).lookup ("places" : Str) = some (.ref pl) := (lk_past (by decide +kernel)).trans lk_here
theorem f3_l (w pl l : Addr) : (f3L w pl l).lookup ("links" : Str) = some (.ref l) := (lk_past (by decide +kernel)).trans ((lk_past (by decide +kernel)).trans lk_here)
theorem f3_no {w pl l : Addr} {m : Str} (h1 : (m == ("winds" : Str)) = false) (h2 : (m == ("places" : Str)) = false) (h3 : (m == ("links" : Str)) = false) : (f3L w pl l).lookup m = none := (lk_past h1).trans ((lk_past h2).trans ((lk_past h3).trans rfl))
section
variable {P : Program} {w : World} {K : PySem.W.Frag} {mg : Str → Option Value} {base : Heap}
/-! ### link_names -/
def spLinkNames (K : PySem.W.Frag) : Sp := fun vs H Q _ => ∃ (p dx : Addr) (fs : List (Str × V)) (l : Addr) (links : List Lk), vs = [.ref p] ∧ H p = some (.ins (CL K) dx fs) ∧ fs.lookup ("links" : Str) = some (.ref l) ∧ Dp K H (.ref l) (.tuple (links.map lkD)) ∧ links.length ≤ 900 ∧
  ∀ q H', Same H H' → SqT K H' q ((links.map (·.nm)).map V.str) → Q (.ref q) H'
theorem scLinkNames : FnScope ["self", "link"] ["self"] (defScope sLinkNames) := ⟨rfl, rfl, rfl, by decide +kernel, rfl, by decide +kernel, by decide +kernel⟩
theorem ok_link_names (T : Txt K mg) : ∃ fd, Binds K fd ["self"] [] ∧ FnOk P w K mg base CX0 1 (gAd K) fd ["self"] (spLinkNames K) := by
  obtain ⟨fd, F⟩ := T.dLn
  refine ⟨fd, F.bindsN (fun _ _ _ _ _ _ us hl => match us, hl with | [_], _ => rfl), F.ok scLinkNames (fun vs H Q E h => by obtain ⟨p, dx, fs, l, links, rfl, _⟩ := h; rfl) fun cdv A outer s H vs Q E hr h => ?_⟩
  obtain ⟨p, dx, fs, l, links, rfl, hp, hf, hl, lz, k⟩ := h
  obtain ⟨la, xs, el, hS, hd⟩ := dp_tup hl
  cases el
  have xl : xs.length = links.length := by rw [dpa_len hd, List.length_map]
  suffices z : ∃ t, PSs (cxOf CX0 P w K mg base ["self", "link"] "Land.link_names" (defScope sLinkNames) (gAd K) cdv A outer s H E).nox (defBody sLinkNames) t ∧ t { nx := fun _ H' => Q .non H', rt := Q } (start ["self", "link"] [.ref p]) H from by
    obtain ⟨t, h1, h2⟩ := z
    exact ⟨t, h1.nox, h2⟩
  refine ⟨_, pss_one (ps_ret (pe_callTy call_tuple_of (by rfl) T.fTuple (by decide +kernel) (pa_cons (pe_lc (own := [("link", 1)]) (g := gName 1) (by rfl) scLinkNames.nd (pi_tup (pe_fld (pv 0) rfl)) (blkOk_by (N := ["self", "link"]) (sc := defScope sLinkNames) (by decide +kernel))
    (fun _ _ _ _ _ => pg_name (i := 1) scLinkNames.nd rfl (Or.inl rfl)) (fun _ _ _ _ _ => pts_nil) (fun _ _ _ _ _ => pe_ix (ixT_ K) (pv 1) pe_int (fun _ _ => rfl))) pa_nil))), ?_⟩
  refine ⟨_, rfl, p, CL K, dx, fs, _, rfl, hp, T.cl, T.nLinks, hf, l, rfl, ⟨_, hS⟩, fun D hD => lc_data (K := K) walk_tup hD (fun i => ((links.take i).map (·.nm)).map PyData.str) rfl (fun i hi => ?_) (fun H' e => sm_tup e hS) ?_ ?_⟩
  · rw [List.length_map, List.length_map, List.length_take]
    exact small1000 (by omega)
  · rintro i u H1 H2 N hi s1 ⟨rfl, hu⟩ kY kN
    obtain ⟨d, h1, h2⟩ := dpa_get hd hu
    obtain ⟨r, h3, rfl⟩ := get_map h1
    obtain ⟨b, ys, rfl, hs, hys⟩ := dp_tup (dp_sm s1 _ _ h2)
    obtain ⟨y1, y2, y3, y4, rfl, hy1, _⟩ := dpa_4 hys
    obtain rfl := dp_str hy1
    refine ⟨rfl, _, rfl, b, _, 0, _, rfl, rfl, hs, rfl, ?_⟩
    refine kY _ _ (.str r.nm) (Same.refl _) (.str _) rfl ?_
    rw [take_snoc h3, List.map_append, List.map_append]
    rfl
  · intro H1 s1 hls
    obtain ⟨acc, hA, hdp, _⟩ := hls
    rw [xl, List.take_length] at hdp
    rw [dpa_ofStrs hdp] at hA
    refine ⟨D, _, rfl, .inl ⟨SqL.of hA, fun q hq => ?_⟩⟩
    exact k q _ (s1.trans (sm_up hq)) (SqT.of upd_same)
/-! ### Land.__init__ -/
structure PathsOk (places : List Str) (paths : List Pa) : Prop where
  len : paths.length ≤ 60
  ok : ∀ p ∈ paths, PaOk places p
  df : ∀ (i j : Nat) (p q : Pa), i < j → paths[i]? = some p → paths[j]? = some q → ¬ (p.one = q.one ∧ p.oth = q.oth) ∧ ¬ (p.one = q.oth ∧ p.oth = q.one)
structure LandNm (L : LandD) : Prop where
  w : ∀ z ∈ L.winds, NameOk z
  p : ∀ z ∈ L.places, NameOk z
  l : ∀ l ∈ L.links, NameOk l.nm
  ln : (L.links.map (·.nm)).Nodup
  pa : PathsOk L.places L.paths
def spInit (K : PySem.W.Frag) : Sp := fun vs H Q _ => ∃ (H0 : Hp) (p dx : Addr) (L : LandD) (wd pl l pa : Addr), vs = [.ref p, .ref wd, .ref pl, .ref l, .ref pa] ∧ Same H0 H ∧ H0 p = none ∧ H p = some (.ins (CL K) dx []) ∧
  TupN H0 wd (L.winds.map V.str) ∧ SqT K H0 pl (L.places.map V.str) ∧ Dp K H0 (.ref l) (.tuple (L.links.map lkD)) ∧ Dp K H0 (.ref pa) (.tuple (L.paths.map paD)) ∧ LandOk L ∧ LandNm L ∧ ∀ H', Same H0 H' → LandAt K H' p L → Q .non H'
abbrev nmInit : List Str := ["self", "winds", "places", "links", "paths", "wind", "place", "link", "path"]
theorem scInit : FnScope nmInit ["self", "winds", "places", "links", "paths"] (defScope sLandInit) := ⟨rfl, rfl, rfl, by decide +kernel, rfl, by decide +kernel, by decide +kernel⟩
end
section
variable {X : Cx}
theorem pe_mK (K : PySem.W.Frag) {j k : Nat} {m : Str} {ps : List Str} {sp : Sp} {o e : Expr} {es : List Expr} {apos pos : Pos} {ta : TE} {t : TA} {pl : Sem Bool} (ho : PE X o ta) (h : HasM X.prog X.w X.K X.mg X.base j m ps sp) (hr : Room k X.A) (ha : PA X (e :: es) t) (hl : j ≤ k := by decide) (hK : X.K = K := by rfl)
    (hst : starEach (e :: es) X.env = (false, eval e X.env) :: starEach es X.env := by rfl) (hpl : (backTo pos (starEach es X.env)).any (·.1) = false := by rfl)
    (ht : eval (.Call (.Attribute o m apos) (e :: es) [] pos) X.env = (do
      let y ← eval o X.env
      standAt apos.atName
      let (f, z) ← holding [y] (getMethod y m pl)
      callWith pos f z (backTo pos (starEach (e :: es) X.env)) (backToKw pos (keywordEach [] X.env))) := by rfl) : PE X (.Call (.Attribute o m apos) (e :: es) [] pos) (tMeth (CL K) m sp [] E0 ta t) := by
  have q := pe_m ho h hr ha hl hst hpl ht
  rw [hK] at q
  exact q
end
/-- the ends of a path in one order or the other -/
def SoR (paths : List Pa) (rs : List (Str × Str)) : Prop := ∀ (j : Nat) (p : Pa) (r : Str × Str), paths[j]? = some p → rs[j]? = some r → r = (p.one, p.oth) ∨ r = (p.oth, p.one)
theorem sor_nodup {places : List Str} {paths : List Pa} {rs : List (Str × Str)} (ok : PathsOk places paths) (h : SoR paths rs) (hl : rs.length = paths.length) : rs.Nodup := by
  refine List.pairwise_iff_getElem.mpr fun i j hi hj hij e => ?_
  have pi : paths[i]? = some paths[i] := List.getElem?_eq_getElem (by omega)
  have pj : paths[j]? = some paths[j] := List.getElem?_eq_getElem (by omega)
  have d := ok.df i j _ _ hij pi pj
  rcases h i _ _ pi (List.getElem?_eq_getElem hi) with a | a <;> rcases h j _ _ pj (List.getElem?_eq_getElem hj) with b | b <;> rw [a, b] at e <;> injection e with e1 e2
  · exact d.1 ⟨e1, e2⟩
  · exact d.2 ⟨e1, e2⟩
  · exact d.2 ⟨e2, e1⟩
  · exact d.1 ⟨e2, e1⟩
theorem perm_two {x y : Str} {ys : List Str} (h : ys.Perm [x, y]) : ys = [x, y] ∨ ys = [y, x] := by
  match ys, h.length_eq with
  | [a, b], _ =>
    have ha : a ∈ [x, y] := h.mem_iff.mp List.mem_cons_self
    rcases List.mem_cons.mp ha with e | e
    · subst e
      have := List.Perm.cons_inv h
      rw [List.perm_singleton.mp this]
      exact .inl rfl
    · have e := List.mem_singleton.mp e
      subst e
      have h2 : List.Perm [a, b] [a, x] := h.trans (List.Perm.swap ..)
      rw [List.perm_singleton.mp (List.Perm.cons_inv h2)]
      exact .inr rfl
section
variable {P : Program} {w : World} {K : PySem.W.Frag} {mg : Str → Option Value} {base : Heap}
set_option maxHeartbeats 8000000 in
theorem ok_init (T : Txt K mg) : ∃ fd, (∃ mv : List Value, KBn K fd ["self", "winds", "places", "links", "paths"] 1 ["winds", "places", "links", "paths"] (fun us ws => us ++ ws) (fun vs zs => vs ++ zs)) ∧ FnOk P w K mg base CX0 4 (He.ma K (CL K) "__init__") fd ["self", "winds", "places", "links", "paths"] (spInit K) := by
  have G : Has P w K mg base 1 "require" ["holds"] spRequire := ok_require T
  have Gn : Has P w K mg base 1 "is_name" ["text"] (spIsName K) := ok_is_name T
  have Gd : Has P w K mg base 1 "are_different" ["parts"] (spAreDifferent K) := ok_are_different T
  have Gl : HasM P w K mg base 3 "checked_link" ["self", "link"] (spCheckedLink K) := ok_checked_link T
  have Gp : HasM P w K mg base 2 "checked_path" ["self", "path"] (spCheckedPath K) := ok_checked_path T
  obtain ⟨fl, bl, Fl⟩ := ok_link_names (P := P) (w := w) (base := base) T
  obtain ⟨t1, e1⟩ := T.iMostWinds
  obtain ⟨t2, e2⟩ := T.iMostPlaces
  obtain ⟨t3, e3⟩ := T.iMostLinks
  obtain ⟨t4, e4⟩ := T.iMostPaths
  obtain ⟨fd, F⟩ := T.dInit
  refine ⟨fd, F.kbinds0 1 ["winds", "places", "links", "paths"] [] (fun us _ ws => us ++ ws) (List.cons_ne_nil _ _) (fun q hq => nomatch hq) (fun r _ rz => r.append rz) (fun D doc pm an cdv ct us mv ws l1 l2 l3 => ?_), F.ok scInit (fun vs H Q E h => by obtain ⟨H0, p, dx, L, wd, pl, l, pa, rfl, _⟩ := h; rfl) fun cdv A outer s H vs Q E hr h => ?_⟩
  · match us, l1, mv, l2, ws, l3 with
    | [_], _, [], _, [_, _, _, _], _ => rfl
  obtain ⟨H0, p, dx, L, wd, pl, l, pa, rfl, s0, hp0, hp, hwd, hpl, hl, hpa, ok, nm, k⟩ := h
  have n1 := ok.wn1
  have n2 := ok.wn
  have n3 := ok.pn1
  have n4 := ok.pn
  have n5 := ok.ln
  have n6 := nm.pa.len
  obtain ⟨la', xl, el, hSl, hdl⟩ := dp_tup hl
  cases el
  obtain ⟨pa', xp, ep, hSp, hdp⟩ := dp_tup hpa
  cases ep
  have ll : xl.length = L.links.length := by rw [dpa_len hdl, List.length_map]
  have lp : xp.length = L.paths.length := by rw [dpa_len hdp, List.length_map]
  suffices z : ∃ t, PSs (cxOf CX0 P w K mg base nmInit "Land.__init__" (defScope sLandInit) (He.ma K (CL K) "__init__") cdv A outer s H E).nox (defBody sLandInit) t ∧ t { nx := fun _ H' => Q .non H', rt := Q } (start nmInit [.ref p, .ref wd, .ref pl, .ref l, .ref pa]) H from by
    obtain ⟨t, h1, h2⟩ := z
    exact ⟨t, h1.nox, h2⟩
  refine ⟨_, pss_cons (ps_expr (pe_f G hr (by rfl) (pa_cons (pe_and (pe_chain op_le op_le pe_int (pe_callB call_len_seq (by rfl) T.fLen PySem.boot_len (pa_cons (pv 1) pa_nil)) (pe_glob (v := .int 4) rfl e1 ⟨t1, rfl⟩))
        (pe_and (pe_callB (cr_all rfl) (by rfl) T.fAll (by decide +kernel) (pa_cons (pe_lc (own := [("wind", 5)]) (g := gName 5) (by rfl) scInit.nd (pi_tup (pv 1)) (blkOk_by (N := nmInit) (sc := defScope sLandInit) (by decide +kernel))
          (fun _ _ _ _ _ => pg_name (i := 5) scInit.nd rfl (Or.inl rfl)) (fun _ _ _ _ _ => pts_nil) (fun _ _ _ _ _ => pe_f Gn hr (by rfl) (pa_cons (pv 5) pa_nil))) pa_nil))
        (pe_one (pe_f Gd hr (by rfl) (pa_cons (pv 1) pa_nil))))) pa_nil)))
    (pss_cons (ps_expr (pe_f G hr (by rfl) (pa_cons (pe_and (pe_chain op_le op_le pe_int (pe_callB call_len_seq (by rfl) T.fLen PySem.boot_len (pa_cons (pv 2) pa_nil)) (pe_glob (v := .int 24) rfl e2 ⟨t2, rfl⟩))
        (pe_one (pe_callB (cr_all rfl) (by rfl) T.fAll (by decide +kernel) (pa_cons (pe_lc (own := [("place", 6)]) (g := gName 6) (by rfl) scInit.nd (pi_tup (pv 2)) (blkOk_by (N := nmInit) (sc := defScope sLandInit) (by decide +kernel))
          (fun _ _ _ _ _ => pg_name (i := 6) scInit.nd rfl (Or.inl rfl)) (fun _ _ _ _ _ => pts_nil) (fun _ _ _ _ _ => pe_f Gn hr (by rfl) (pa_cons (pv 6) pa_nil))) pa_nil)))) pa_nil)))
    (pss_cons (ps_expr (pe_f G hr (by rfl) (pa_cons (pe_f Gd hr (by rfl) (pa_cons (pv 2) pa_nil)) pa_nil)))
    (pss_cons (ps_fld (pv 0) (pe_callTy call_tuple_of (by rfl) T.fTuple (by decide +kernel) (pa_cons (pv 1) pa_nil)) rfl)
    (pss_cons (ps_fld (pv 0) (pe_callTy call_tuple_of (by rfl) T.fTuple (by decide +kernel) (pa_cons (pv 2) pa_nil)) rfl)
    (pss_cons (ps_expr (pe_f G hr (by rfl) (pa_cons (pe_cmpR op_le (pe_callB call_len_seq (by rfl) T.fLen PySem.boot_len (pa_cons (pv 3) pa_nil)) (pe_glob (v := .int 60) rfl e3 ⟨t3, rfl⟩) (nomark _)) pa_nil)))
    (pss_cons (ps_fld (pv 0) (pe_callTy call_tuple_of (by rfl) T.fTuple (by decide +kernel) (pa_cons (pe_lc (own := [("link", 7)]) (g := gName 7) (by rfl) scInit.nd (pi_tup (pv 3)) (blkOk_by (N := nmInit) (sc := defScope sLandInit) (by decide +kernel))
          (fun _ _ _ _ _ => pg_name (i := 7) scInit.nd rfl (Or.inl rfl)) (fun _ _ _ _ _ => pts_nil) (fun _ _ _ _ _ => pe_mK K (pv 0) Gl hr (pa_cons (pv 7) pa_nil))) pa_nil)) rfl)
    (pss_cons (ps_expr (pe_f G hr (by rfl) (pa_cons (pe_f Gd hr (by rfl) (pa_cons (pe_prop (pv 0) T.cl T.pLn Fl (hr.mono (by decide)) bl .nil pass0 rfl) pa_nil)) pa_nil)))
    (pss_cons (ps_expr (pe_f G hr (by rfl) (pa_cons (pe_cmpR op_le (pe_callB call_len_seq (by rfl) T.fLen PySem.boot_len (pa_cons (pv 4) pa_nil)) (pe_glob (v := .int 60) rfl e4 ⟨t4, rfl⟩) (nomark _)) pa_nil)))
    (pss_cons (ps_fld (pv 0) (pe_callTy call_tuple_of (by rfl) T.fTuple (by decide +kernel) (pa_cons (pe_lc (own := [("path", 8)]) (g := gName 8) (by rfl) scInit.nd (pi_tup (pv 4)) (blkOk_by (N := nmInit) (sc := defScope sLandInit) (by decide +kernel))
          (fun _ _ _ _ _ => pg_name (i := 8) scInit.nd rfl (Or.inl rfl)) (fun _ _ _ _ _ => pts_nil) (fun _ _ _ _ _ => pe_mK K (pv 0) Gp hr (pa_cons (pv 8) pa_nil))) pa_nil)) rfl)
    (pss_one (ps_expr (pe_f G hr (by rfl) (pa_cons (pe_f Gd hr (by rfl) (pa_cons (pe_lc (own := [("path", 8)]) (g := gName 8) (by rfl) scInit.nd (pi_tup (pe_fld (pv 0) rfl)) (blkOk_by (N := nmInit) (sc := defScope sLandInit) (by decide +kernel))
          (fun _ _ _ _ _ => pg_name (i := 8) scInit.nd rfl (Or.inl rfl)) (fun _ _ _ _ _ => pts_nil)
          (fun _ _ _ _ _ => pe_callTy (cTup_ K) (by rfl) T.fTuple (by decide +kernel) (pa_cons (pe_callB (soT_ K) (by rfl) T.fSorted (by decide +kernel) (pa_cons (pe_slice (slT_ K) (pv 8) po_none (po_some pe_int)) pa_nil)) pa_nil))) pa_nil)) pa_nil))))))))))))), ?_⟩
  have hw0 : SqT K H0 wd (L.winds.map V.str) := tupN_sq hwd
  -- winds
  refine ⟨_, rfl, wd, _, rfl, .inr (sm_tup s0 hw0), _, _, rfl, rfl, true, ?_, iteT ⟨_, _, rfl, rfl, true, ?_, iteT ?_⟩⟩
  · show V.bl (decide ((1 : Int) ≤ ((L.winds.map V.str).length : Int))) = V.bl true
    rw [decide_eq_true (by rw [List.length_map]; omega)]
  · show V.bl (decide (((L.winds.map V.str).length : Int) ≤ (4 : Int))) = V.bl true
    rw [decide_eq_true (by rw [List.length_map]; omega)]
  refine ⟨_, rfl, wd, rfl, ⟨_, sm_tup s0 hw0⟩, fun D hD => lc_data (K := K) walk_tup hD (fun i => List.replicate i (PyData.bool true)) rfl (fun i hi => ?_) (fun H' e => sm_tup (s0.trans e) hw0) ?_ ?_⟩
  · rw [List.length_replicate]
    exact small1000 (by rw [List.length_map] at hi; omega)
  · rintro i x H1 H2 N hi s1 ⟨rfl, hx⟩ kY kN
    obtain ⟨z, h3, rfl⟩ := get_map hx
    exact ⟨rfl, _, rfl, z, rfl, nm.w z (List.mem_of_getElem? h3), fun H3 s2 => kY H3 _ (.bool true) s2 (.bl _) rfl List.replicate_succ'⟩
  intro H1 s1 hls
  obtain ⟨acc, hA, hda, _⟩ := hls
  have ea : acc = (List.replicate (L.winds.map V.str).length true).map V.bl := dpa_bools (by rw [List.map_replicate]; exact hda)
  subst ea
  refine ⟨D, _, rfl, SqL.of hA, true, by rw [all_rep], iteT ⟨_, rfl, wd, rfl, .inl ⟨L.winds, sm_tup (s0.trans s1) hw0, ok.wnd, by omega⟩, fun H2 s2 => ⟨rfl, ?_⟩⟩⟩
  have s3 := (s0.trans s1).trans s2
  clear hA hda
  -- places
  refine ⟨_, rfl, pl, _, rfl, .inr (sm_tup s3 hpl), _, _, rfl, rfl, true, ?_, iteT ⟨_, _, rfl, rfl, true, ?_, iteT ?_⟩⟩
  · show V.bl (decide ((1 : Int) ≤ ((L.places.map V.str).length : Int))) = V.bl true
    rw [decide_eq_true (by rw [List.length_map]; omega)]
  · show V.bl (decide (((L.places.map V.str).length : Int) ≤ (24 : Int))) = V.bl true
    rw [decide_eq_true (by rw [List.length_map]; omega)]
  refine ⟨_, rfl, pl, rfl, ⟨_, sm_tup s3 hpl⟩, fun D hD => lc_data (K := K) walk_tup hD (fun i => List.replicate i (PyData.bool true)) rfl (fun i hi => ?_) (fun H' e => sm_tup (s3.trans e) hpl) ?_ ?_⟩
  · rw [List.length_replicate]
    exact small1000 (by rw [List.length_map] at hi; omega)
  · rintro i x H3 H4 N hi s1 ⟨rfl, hx⟩ kY kN
    obtain ⟨z, h3, rfl⟩ := get_map hx
    exact ⟨rfl, _, rfl, z, rfl, nm.p z (List.mem_of_getElem? h3), fun H5 s2 => kY H5 _ (.bool true) s2 (.bl _) rfl List.replicate_succ'⟩
  intro H3 s4 hls
  obtain ⟨acc, hA, hda, _⟩ := hls
  have ea : acc = (List.replicate (L.places.map V.str).length true).map V.bl := dpa_bools (by rw [List.map_replicate]; exact hda)
  subst ea
  have s5 := s3.trans s4
  refine ⟨D, _, rfl, SqL.of hA, ?_⟩
  rw [all_rep]
  refine ⟨rfl, ?_⟩
  clear hA hda
  refine ⟨_, rfl, pl, rfl, .inl ⟨L.places, sm_tup s5 hpl, ok.pnd, by omega⟩, fun H4 s6 => ⟨rfl, ?_⟩⟩
  have s7 := s5.trans s6
  -- the instance: nothing but __init__ changes it
  have hp4 : H4 p = some (.ins (CL K) dx []) := s6 _ _ (s4 _ _ (s2 _ _ (s1 _ _ hp)))
  refine ⟨_, rfl, wd, _, rfl, .inr ⟨sm_tup s7 hw0, _, rfl, p, CL K, dx, _, rfl, hp4, T.cl, T.nWinds, (by show 0 < 1000; decide), ?_⟩⟩
  have s8 := sm_mut (o := .ins (CL K) dx (putF "winds" (.ref wd) [])) s7 hp0
  refine ⟨_, rfl, pl, _, rfl, .inr ⟨sm_tup s8 hpl, _, rfl, p, CL K, dx, _, rfl, upd_same, T.cl, T.nPlaces, (by show 1 < 1000; decide), ?_⟩⟩
  have s9 := sm_mut (o := .ins (CL K) dx (putF "places" (.ref pl) (putF "winds" (.ref wd) []))) s8 hp0
  have hp5 : (upd (upd H4 p (.ins (CL K) dx (putF "winds" (.ref wd) []))) p (.ins (CL K) dx (putF "places" (.ref pl) (putF "winds" (.ref wd) [])))) p = some (.ins (CL K) dx (f2L wd pl)) := by rw [upd_same, put1, put2]
  generalize upd (upd H4 p (.ins (CL K) dx (putF "winds" (.ref wd) []))) p (.ins (CL K) dx (putF "places" (.ref pl) (putF "winds" (.ref wd) []))) = H5 at s9 hp5 ⊢
  -- links
  refine ⟨_, rfl, l, xl, rfl, .inr (sm_tup s9 hSl), _, _, rfl, rfl, congrArg (fun b => [V.bl b]) (decide_eq_true (by omega)), ?_⟩
  have half : ∀ {Hx : Hp}, Same H5 Hx → HalfAt K Hx p L.winds L.places := fun e => ⟨dx, f2L wd pl, wd, pl, e _ _ hp5, f2_w _ _, tupN_sm (s9.trans e) hwd, f2_p _ _, sm_tup (s9.trans e) hpl, f2_no (by decide +kernel) (by decide +kernel), f2_no (by decide +kernel) (by decide +kernel), f2_no (by decide +kernel) (by decide +kernel)⟩
  refine ⟨_, rfl, l, rfl, ⟨_, sm_tup s9 hSl⟩, fun D2 hD2 => lc_data (K := K) walk_tup hD2 (fun i => (L.links.take i).map lkD) rfl (fun i hi => ?_) (fun H' e => sm_tup (s9.trans e) hSl) ?_ ?_⟩
  · rw [List.length_map, List.length_take]
    exact small1000 (by omega)
  · rintro i x Ha Hb N hi e1 ⟨rfl, hx⟩ kY kN
    obtain ⟨d, h1, h2⟩ := dpa_get hdl hx
    obtain ⟨r, h3, rfl⟩ := get_map h1
    have hm := List.mem_of_getElem? h3
    refine ⟨rfl, _, rfl, p, dx, f2L wd pl, rfl, e1 _ _ hp5, f2_no (by decide +kernel) (by decide +kernel), _, rfl, p, L.winds, L.places, r, x, rfl, half e1, n2, dp_sm (s9.trans e1) _ _ h2, nm.l r hm, ok.lk r hm, fun v' Hc e2 hv' => kY Hc v' (lkD r) e2 hv' (nl_lk r) ?_⟩
    rw [take_snoc h3, List.map_append]
    rfl
  intro H6 s10 hls
  obtain ⟨acc, hA, hda, _⟩ := hls
  rw [ll, List.take_length] at hda
  refine ⟨D2, acc, rfl, .inl ⟨SqL.of hA, fun lq hlq => ?_⟩⟩
  have s11 : Same H6 (upd H6 lq (.tup acc)) := sm_up hlq
  have hlinks : Dp K (upd H6 lq (.tup acc)) (.ref lq) (.tuple (L.links.map lkD)) := .tup (SqT.of upd_same) (dpa_sm s11 _ _ hda)
  have hp6 := (s10.trans s11) _ _ hp5
  have s12 := (s9.trans s10).trans s11
  generalize upd H6 lq (.tup acc) = H7 at hlinks hp6 s12 s11 ⊢
  refine ⟨_, rfl, p, CL K, dx, _, rfl, hp6, T.cl, T.nLinks, (by show 2 < 1000; decide), ?_⟩
  have s13 := sm_mut (o := .ins (CL K) dx (putF "links" (.ref lq) (f2L wd pl))) s12 hp0
  have tp1 : Tps H7 (upd H7 p (.ins (CL K) dx (putF "links" (.ref lq) (f2L wd pl)))) := tps_upd hp6 trivial
  have hl8 := dp_tps tp1 _ _ (show nl (.tuple (L.links.map lkD)) = true by simp [nl, nlA_map lkD nl_lk]) hlinks
  have hp8 : (upd H7 p (.ins (CL K) dx (putF "links" (.ref lq) (f2L wd pl)))) p = some (.ins (CL K) dx (f3L wd pl lq)) := by rw [upd_same, put3]
  generalize upd H7 p (.ins (CL K) dx (putF "links" (.ref lq) (f2L wd pl))) = H8 at s13 hl8 hp8 tp1 ⊢
  -- link names
  refine ⟨_, rfl, p, dx, _, rfl, hp8, p, dx, _, lq, L.links, rfl, hp8, f3_l _ _ _, hl8, by omega, fun nq H9 s14 hnq => ?_⟩
  refine ⟨nq, rfl, .inl ⟨_, hnq, nm.ln, by rw [List.length_map]; omega⟩, fun H10 s15 => ⟨rfl, ?_⟩⟩
  have s16 := (s13.trans s14).trans s15
  have e16 := s14.trans s15
  -- paths
  refine ⟨_, rfl, pa, xp, rfl, .inr (sm_tup s16 hSp), _, _, rfl, rfl, congrArg (fun b => [V.bl b]) (decide_eq_true (by omega)), ?_⟩
  have half3 : ∀ {Hx : Hp}, Same H8 Hx → HalfAt K Hx p L.winds L.places := fun e => ⟨dx, f3L wd pl lq, wd, pl, e _ _ hp8, f3_w _ _ _, tupN_sm (s13.trans e) hwd, f3_p _ _ _, sm_tup (s13.trans e) hpl, f3_no (by decide +kernel) (by decide +kernel) (by decide +kernel), f3_no (by decide +kernel) (by decide +kernel) (by decide +kernel), f3_no (by decide +kernel) (by decide +kernel) (by decide +kernel)⟩
  refine ⟨_, rfl, pa, rfl, ⟨_, sm_tup s16 hSp⟩, fun D3 hD3 => lc_data (K := K) walk_tup hD3 (fun i => (L.paths.take i).map paD) rfl (fun i hi => ?_) (fun H' e => sm_tup (s16.trans e) hSp) ?_ ?_⟩
  · rw [List.length_map, List.length_take]
    exact small1000 (by omega)
  · rintro i x Ha Hb N hi e1 ⟨rfl, hx⟩ kY kN
    obtain ⟨d, h1, h2⟩ := dpa_get hdp hx
    obtain ⟨r, h3, rfl⟩ := get_map h1
    have hm := List.mem_of_getElem? h3
    refine ⟨rfl, _, rfl, p, dx, f3L wd pl lq, rfl, (e16.trans e1) _ _ hp8, f3_no (by decide +kernel) (by decide +kernel) (by decide +kernel), _, rfl, p, L.winds, L.places, r, x, rfl, half3 (e16.trans e1), dp_sm (s16.trans e1) _ _ h2, nm.pa.ok r hm, fun v' Hc e2 hv' => kY Hc v' (paD r) e2 hv' (nl_pa r) ?_⟩
    rw [take_snoc h3, List.map_append]
    rfl
  intro H11 s17 hls
  obtain ⟨acc3, hA3, hda3, _⟩ := hls
  rw [lp, List.take_length] at hda3
  refine ⟨D3, acc3, rfl, .inl ⟨SqL.of hA3, fun pq hpq => ?_⟩⟩
  have s18 : Same H11 (upd H11 pq (.tup acc3)) := sm_up hpq
  have hpaths : Dp K (upd H11 pq (.tup acc3)) (.ref pq) (.tuple (L.paths.map paD)) := .tup (SqT.of upd_same) (dpa_sm s18 _ _ hda3)
  have e18 := (e16.trans s17).trans s18
  have hp11 := e18 _ _ hp8
  have hl11 := dp_sm e18 _ _ hl8
  have s19 := s13.trans e18
  generalize upd H11 pq (.tup acc3) = H12 at hpaths hp11 hl11 s19 s18 e18 ⊢
  refine ⟨_, rfl, p, CL K, dx, _, rfl, hp11, T.cl, T.nPaths, (by show 3 < 1000; decide), ?_⟩
  have s20 := sm_mut (o := .ins (CL K) dx (putF "paths" (.ref pq) (f3L wd pl lq))) s19 hp0
  have tp2 : Tps H12 (upd H12 p (.ins (CL K) dx (putF "paths" (.ref pq) (f3L wd pl lq)))) := tps_upd hp11 trivial
  have hl13 := dp_tps tp2 _ _ (show nl (.tuple (L.links.map lkD)) = true by simp [nl, nlA_map lkD nl_lk]) hl11
  have hpa13 := dp_tps tp2 _ _ (show nl (.tuple (L.paths.map paD)) = true by simp [nl, nlA_map paD nl_pa]) hpaths
  have hp13 : (upd H12 p (.ins (CL K) dx (putF "paths" (.ref pq) (f3L wd pl lq)))) p = some (.ins (CL K) dx (lf wd pl lq pq)) := by rw [upd_same, put4]
  generalize upd H12 p (.ins (CL K) dx (putF "paths" (.ref pq) (f3L wd pl lq))) = H13 at s20 hl13 hpa13 hp13 tp2 ⊢
  have land : LandAt K H13 p L := ⟨dx, wd, pl, lq, pq, hp13, tupN_sm s20 hwd, sm_tup s20 hpl, hl13, hpa13⟩
  -- the ends of the paths
  obtain ⟨pq', ws, eq, hSq, hdq⟩ := dp_tup hpa13
  cases eq
  have lw : ws.length = L.paths.length := by rw [dpa_len hdq, List.length_map]
  refine ⟨_, rfl, p, CL K, dx, _, _, rfl, hp13, T.cl, T.nPaths, lf_paths _ _ _ _, pq, rfl, ⟨_, hSq⟩, fun D4 hD4 => lc_it walk_tup (fun i H' => Same H13 H' ∧ ∃ rs : List (Str × Str), LsAt K H' D4 (rs.map prS) ∧ rs.length = i ∧ SoR L.paths rs) ⟨sm_up hD4, [], ⟨[], upd_same, .nil, rfl⟩, rfl, fun j a b _ h => by simp at h⟩ (fun i H' _ q => sm_tup q.1 hSq) ?_ ?_⟩
  · rintro i x Ha Hb hi ⟨t1, rs, ⟨acc, g1, g2, g3⟩, rl, so⟩ ⟨rfl, hx⟩
    obtain ⟨d, h1, h2⟩ := dpa_get hdq hx
    obtain ⟨r, h3, rfl⟩ := get_map h1
    obtain ⟨ra, ys, rfl, hra, hys⟩ := dp_tup (dp_sm t1 _ _ h2)
    obtain ⟨y1, y2, y3, rfl, hy1, hy2, hy3⟩ := dpa_3 hys
    obtain rfl := dp_str hy1
    obtain rfl := dp_str hy2
    refine ⟨rfl, _, rfl, 2, rfl, ra, _, rfl, hra, ?_, fun b1 hb1 => ?_⟩
    · rintro ⟨_, q⟩
      have q2 : (2 : Nat) = 3 := q
      omega
    · have ec : cutV [.str r.one, .str r.oth, y3] none (some 2) = [r.one, r.oth].map V.str := cut_take _ 2
      rw [ec]
      have u1 := sm_up (o := .tup ([r.one, r.oth].map V.str)) hb1
      refine ⟨b1, [r.one, r.oth], rfl, SqT.of upd_same, (by show 2 < 64; decide), fun zs b2 hperm _ hb2 => ?_⟩
      have u2 := u1.trans (sm_up (o := .lst (zs.map V.str)) hb2)
      refine ⟨b2, _, rfl, .inl ⟨SqL.of upd_same, fun b3 hb3 => ?_⟩⟩
      have u3 := u2.trans (sm_up (o := .tup (zs.map V.str)) hb3)
      have zz : ∃ q : Str × Str, zs = [q.1, q.2] ∧ (q = (r.one, r.oth) ∨ q = (r.oth, r.one)) := by
        rcases perm_two hperm with e | e
        · exact ⟨(r.one, r.oth), e, .inl rfl⟩
        · exact ⟨(r.oth, r.one), e, .inr rfl⟩
      obtain ⟨q, rfl, hq⟩ := zz
      refine ⟨acc, u3 _ _ g1, ?_, sm_mut (t1.trans u3) hD4, rs ++ [q], ?_, by rw [List.length_append, rl]; rfl, fun j a b ha hb => ?_⟩
      · rw [dpa_len g2, List.length_map, rl]
        exact small1000 (by omega)
      · rw [List.map_append]
        exact lsAt_app (u3 _ _ g1) (dpa_sm u3 _ _ g2) g3 (.tup (SqT.of upd_same) (.cons (.str _) (.cons (.str _) .nil))) (nl_prS q)
      · by_cases hj : j < rs.length
        · rw [List.getElem?_append_left hj] at hb
          exact so j a b ha hb
        · rw [List.getElem?_append_right (by omega)] at hb
          have hj0 : j - rs.length = 0 := by
            by_cases z : j - rs.length = 0
            · exact z
            · rw [List.getElem?_eq_none (by simp; omega)] at hb
              cases hb
          rw [hj0] at hb
          cases hb
          have ej : j = i := by omega
          subst ej
          rw [h3] at ha
          cases ha
          exact hq
  rintro H14 ⟨t1, rs, hls4, rl, so⟩
  refine ⟨D4, rfl, .inr ⟨rs, lsAt_dp hls4, sor_nodup nm.pa so (by omega), by omega⟩, fun H15 s21 => ⟨rfl, ?_⟩⟩
  exact k H15 ((s20.trans t1).trans s21) (land_sm (t1.trans s21) land)
end
/-! ### the law's numbers -/
def rIC : List V → Hp → VK → Prop := fun xs H Q => ∃ i, xs = [.int i] ∧ Q (.int i) H
theorem call_intI {X : Cx} : CallR X (.type "int") rIC := fun pins s σ H xs us Q I r h => call_int1 pins s σ H xs us Q I r (.inl h)
theorem pe_iC {X : Cx} {e : Expr} {te : TE} {p pos : Pos} (h : PE X e te) (hm : X.mg "int" = none) (hg : Gl X "int" := by rfl) (he : starEach [e] X.env = (false, eval e X.env) :: starEach [] X.env := by rfl) (hpl : (backTo pos (starEach [] X.env)).any (·.1) = false := by rfl) :
    PE X (.Call (.Name "int" p) [e] [] pos) (tCB rIC (tCons te tNil)) := pe_callTy call_intI hg hm (by decide +kernel) (pa_cons h pa_nil (hs := he)) (he := he) (hpl := hpl)
section
variable {P : Program} {w : World} {K : PySem.W.Frag} {mg : Str → Option Value} {base : Heap}
def nV (n : Nat) : V := .int (n : Int)
theorem pgt {j : Int} (h : decide (0 < j) = true) : 0 < j := of_decide_eq_true h
def spLawRow (K : PySem.W.Frag) : Sp := fun vs H Q _ => ∃ (c : Int) (m : Nat), vs = [.int c, .int (m : Int)] ∧ m ≤ 900 ∧ ∀ p H' (rs : List Nat), H p = none → Same H H' → H' p = some (.lst (rs.map nV)) → rs.length = m → (∀ r ∈ rs, r < 1009) → Q (.ref p) H'
abbrev nmLawRow : List Str := ["_law_cell", "_law_many", "_law_row_here", "_law_rest", "_law_mixed", "_law_k"]
theorem scLawRow : FnScope nmLawRow ["_law_cell", "_law_many"] (defScope sLawRow) := ⟨rfl, rfl, rfl, by decide +kernel, rfl, by decide +kernel, by decide +kernel⟩
theorem mod_nat (i : Int) (m : Nat) (hm : 0 < m) : ∃ r : Nat, i % (m : Int) = (r : Int) ∧ r < m := by
  have h1 := Int.emod_nonneg i (b := (m : Int)) (by omega)
  have h2 := Int.emod_lt_of_pos i (b := (m : Int)) (by omega)
  exact ⟨(i % (m : Int)).toNat, by omega, by omega⟩
theorem ok_law_row (T : Txt K mg) : Has P w K mg base 1 "_law_row" ["_law_cell", "_law_many"] (spLawRow K) := by
  refine has_of T.dLawRow T.gLawRow scLawRow (fun vs H Q E h => by obtain ⟨c, m, rfl, _⟩ := h; rfl) (fun _ _ _ _ _ _ us hl => match us, hl with | [_, _], _ => rfl) fun cdv A outer s H vs Q E hr h => ?_
  obtain ⟨c, m, rfl, mz, k⟩ := h
  refine ⟨_, pss_cons (ps_set (i := 2) scLawRow.nd rfl (.inl rfl) (pe_lst pa_nil))
    (pss_cons (ps_set (i := 3) scLawRow.nd rfl (.inl rfl) (pe_callB call_abs (by rfl) T.fAbs (by decide +kernel) (pa_cons (pv 0) pa_nil)))
    (pss_cons (ps_set (i := 4) scLawRow.nd rfl (.inl rfl) (pe_op op_mod (pe_iC (pe_op op_add (pe_op op_mul (pv 3) pe_int) pe_int) T.fInt) pe_int))
    (pss_cons (ps_for PassesOwn.never rfl (pi_range1 (by rfl) T.fRange (pa_cons (pv 1) pa_nil)) (pg_name (i := 5) scLawRow.nd rfl (.inl rfl))
      (pss_cons (ps_set (i := 4) scLawRow.nd rfl (.inl rfl) (pe_op op_mod (pe_iC (pe_op op_add (pe_op op_mul (pv 4) pe_int) (pe_op op_mul pe_int (pe_op op_add (pv 5) pe_int))) T.fInt) pe_int))
      (pss_one (ps_if (pt_cmpR op_ge (pe_callB call_abs (by rfl) T.fAbs (by decide +kernel) (pa_cons (pv 0) pa_nil)) (pe_op op_pow pe_int pe_int) (nomark _))
        (pss_cons (ps_expr (pe_bm PySem.F.plainAttrs_list PySem.F.slot_list_append PySem.F.type_list_append mt_append (pv 2) (pa_cons (pe_op op_mod (pe_iC (pv 3) T.fInt) pe_int) pa_nil))) (pss_one (ps_set (i := 3) scLawRow.nd rfl (.inl rfl) (pe_op op_fdiv (pv 3) pe_int))))
        (pss_one (ps_expr (pe_bm PySem.F.plainAttrs_list PySem.F.slot_list_append PySem.F.type_list_append mt_append (pv 2) (pa_cons (pe_op op_mod (pe_iC (pe_op op_fdiv (pv 4) pe_int) T.fInt) pe_int) pa_nil))))))))
    (pss_one (ps_ret (pv 2)))))), ?_⟩
  refine ⟨Nat.zero_le _, fun D hD => ?_⟩
  refine ⟨_, rfl, c, rfl, _, rfl, _, _, rfl, rfl, .inr (by decide), _, _, rfl, rfl, _, rfl, _, _, rfl, rfl, pgt rfl, ?_⟩
  refine ⟨_, rfl, (m : Int), rfl, (by omega), (by omega), for_it walk_range (fun i σ H' => Same H H' ∧ (∃ (a b : Int) (u : Option V), σ = [some (.int c), some (.int (m : Int)), some (.ref D), some (.int a), some (.int b), u]) ∧ ∃ rs : List Nat, H' D = some (.lst (rs.map nV)) ∧ rs.length = i ∧ ∀ r ∈ rs, r < 1009)
    ⟨sm_up hD, ⟨_, _, _, rfl⟩, [], upd_same, rfl, fun r h => nomatch h⟩ (fun _ _ _ _ _ => trivial) ?_ ?_⟩
  · rintro i x σ Ha Hb hi ⟨t1, ⟨a, b, u, rfl⟩, rs, h1, h2, h3⟩ ⟨rfl, rfl⟩
    rw [Int.toNat_natCast] at hi
    refine ⟨_, rfl, _, _, rfl, rfl, .inr (by decide), _, rfl, _, _, rfl, rfl, _, _, rfl, rfl, .inl (by decide), _, _, rfl, rfl, _, rfl, _, _, rfl, rfl, pgt rfl, ?_⟩
    refine ⟨_, rfl, c, rfl, _, _, rfl, rfl, (by unfold CPow; decide), _, _, rfl, rfl, _, rfl, ?_⟩
    have fin : ∀ z : Int, ∃ rs' : List Nat, (upd Hb D (.lst (rs.map nV ++ [.int (z % 1009)]))) D = some (.lst (rs'.map nV)) ∧ rs'.length = i + 1 ∧ ∀ r ∈ rs', r < 1009 := fun z => by
      obtain ⟨r, e, hlt⟩ := mod_nat z 1009 (by decide)
      refine ⟨rs ++ [r], ?_, by rw [List.length_append, h2]; rfl, fun q hq => ?_⟩
      · rw [upd_same, List.map_append]
        have e2 : (V.int (z % 1009)) = nV r := congrArg V.int e
        rw [e2]
        rfl
      · rcases List.mem_append.mp hq with hq | hq
        · exact h3 q hq
        · rw [List.mem_singleton.mp hq]
          exact hlt
    have al : (rs.map nV).length < sizeLine := small1000 (by rw [List.length_map]; omega)
    refine ite2 (fun _ => ?_) fun _ => ?_
    · refine ⟨_, rfl, .inl ⟨rfl, _, SqL.of h1⟩, _, rfl, _, rfl, _, _, rfl, rfl, pgt rfl, D, _, _, rfl, rfl, h1, al, ?_⟩
      refine ⟨_, rfl, _, _, rfl, rfl, (by unfold CDiv; decide), ?_⟩
      exact ⟨sm_mut t1 hD, ⟨_, _, _, rfl⟩, fin a⟩
    · refine ⟨_, rfl, .inl ⟨rfl, _, SqL.of h1⟩, _, rfl, _, _, rfl, rfl, (by unfold CDiv; decide), _, rfl, _, _, rfl, rfl, pgt rfl, D, _, _, rfl, rfl, h1, al, ?_⟩
      exact ⟨sm_mut t1 hD, ⟨_, _, _, rfl⟩, fin _⟩
  · rintro σ Ha ⟨t1, ⟨a, b, u, rfl⟩, rs, h1, h2, h3⟩
    rw [Int.toNat_natCast] at h2
    exact ⟨_, rfl, k D Ha rs hD t1 h1 h2 h3⟩
end
structure Nums (ns : List Nat) : Prop where
  len : ns.length = 170
  rng : ∀ n ∈ ns, n < 1009
theorem each_ok : ∀ n < 64, (1 + (170 : Int) / (if ((n : Nat) : Int) > 1 then (n : Int) else 1)) = ((1 + 170 / (max 1 n) : Nat) : Int) ∧ 1 + 170 / (max 1 n) ≤ 171 ∧ n * (1 + 170 / (max 1 n)) ≤ 233 := by decide +kernel
section
variable {P : Program} {w : World} {K : PySem.W.Frag} {mg : Str → Option Value} {base : Heap}
def spLawNumbers (K : PySem.W.Frag) : Sp := fun vs H Q _ => ∃ (a : Addr) (zs : List Int), vs = [.ref a, .int 170] ∧ SqL K H a (zs.map V.int) ∧ ∀ p H' ns, Same H H' → H' p = some (.lst (ns.map nV)) → Nums ns → Q (.ref p) H'
abbrev nmLawNumbers : List Str := ["_law_script", "_law_many", "_law_cells", "_law_each", "_law_numbers_here", "_law_cell", "_law_number"]
theorem scLawNumbers : FnScope nmLawNumbers ["_law_script", "_law_many"] (defScope sLawNumbers) := ⟨rfl, rfl, rfl, by decide +kernel, rfl, by decide +kernel, by decide +kernel⟩
theorem ok_law_numbers (T : Txt K mg) : Has P w K mg base 2 "_law_numbers" ["_law_script", "_law_many"] (spLawNumbers K) := by
  have Gr : Has P w K mg base 1 "_law_row" ["_law_cell", "_law_many"] (spLawRow K) := ok_law_row T
  refine has_of T.dLawNumbers T.gLawNumbers scLawNumbers (fun vs H Q E h => by obtain ⟨a, zs, rfl, _⟩ := h; rfl) (fun _ _ _ _ _ _ us hl => match us, hl with | [_, _], _ => rfl) fun cdv A outer s H vs Q E hr h => ?_
  obtain ⟨a, zs, rfl, hS, k⟩ := h
  refine ⟨_, pss_cons (ps_set (i := 2) scLawNumbers.nd rfl (.inl rfl) (pe_slice sl_list (pv 0) po_none (po_some pe_int)))
    (pss_cons (ps_set (i := 3) scLawNumbers.nd rfl (.inl rfl) (pe_op op_add pe_int (pe_op op_fdiv (pv 1) (pe_callB (call_max2 rfl) (by rfl) T.fMax (by decide +kernel) (pa_cons pe_int (pa_cons (pe_callB call_len_seq (by rfl) T.fLen PySem.boot_len (pa_cons (pv 2) pa_nil)) pa_nil))))))
    (pss_cons (ps_set (i := 4) scLawNumbers.nd rfl (.inl rfl) (pe_lst pa_nil))
    (pss_cons (ps_for PassesOwn.never rfl (pi_list (pv 2)) (pg_name (i := 5) scLawNumbers.nd rfl (.inl rfl))
      (pss_one (ps_for PassesOwn.never rfl (pi_list (pe_f Gr hr (by rfl) (pa_cons (pv 5) (pa_cons (pv 3) pa_nil)))) (pg_name (i := 6) scLawNumbers.nd rfl (.inl rfl))
        (pss_one (ps_expr (pe_bm PySem.F.plainAttrs_list PySem.F.slot_list_append PySem.F.type_list_append mt_append (pv 4) (pa_cons (pv 6) pa_nil)))))))
    (pss_cons (ps_while PassesOwn.never (pt_cmpR op_lt (pe_callB call_len_seq (by rfl) T.fLen PySem.boot_len (pa_cons (pv 4) pa_nil)) (pv 1) (nomark _))
      (pss_one (ps_expr (pe_bm PySem.F.plainAttrs_list PySem.F.slot_list_append PySem.F.type_list_append mt_append (pv 4) (pa_cons pe_int pa_nil)))))
    (pss_one (ps_ret (pe_slice sl_list (pv 4) po_none (po_some (pv 1))))))))), ?_⟩
  refine ⟨_, rfl, 63, rfl, a, _, rfl, hS, fun C hC => ?_⟩
  have ec : cutV (zs.map V.int) none (some 63) = (zs.take 63).map V.int := by
    have := cut_take (zs.map V.int) 63
    rw [← List.map_take] at this
    exact this
  rw [ec]
  have cl : (zs.take 63).length < 64 := by rw [List.length_take]; omega
  generalize zs.take 63 = cs at cl ec ⊢
  obtain ⟨g1, g2, g3⟩ := each_ok cs.length cl
  have s1 := sm_up (o := .lst (cs.map V.int)) hC
  refine ⟨_, rfl, _, rfl, C, _, rfl, .inl (SqL.of upd_same), _, _, rfl, _, _, rfl, rfl, ?_, _, _, rfl, rfl, ?_⟩
  · unfold CDiv
    rw [List.length_map]
    split <;> omega
  have eE : (1 + (170 : Int) / (if ((cs.map V.int).length : Int) > 1 then ((cs.map V.int).length : Int) else 1)) = ((1 + 170 / (max 1 cs.length) : Nat) : Int) := by
    rw [List.length_map]
    exact g1
  have eV : (fun i j : Int => V.int (i + j)) 1 (170 / (if ((cs.map V.int).length : Int) > 1 then ((cs.map V.int).length : Int) else 1)) = V.int ((1 + 170 / (max 1 cs.length) : Nat) : Int) := congrArg V.int eE
  rw [eV]
  generalize 1 + 170 / (max 1 cs.length) = e at g2 g3
  refine ⟨Nat.zero_le _, fun D hD => ?_⟩
  have CD : C ≠ D := ne_of_none upd_same hD
  have DH : H D = none := s1.free hD
  have s2 := s1.trans (sm_up (o := .lst []) hD)
  refine ⟨_, rfl, C, rfl, ⟨_, SqL.of (by rw [upd_ne CD]; exact upd_same)⟩, for_list (K := K) (a := C) (xs := cs.map V.int) (fun i σ H' => Same H H' ∧ (∃ u5 u6, σ = [some (.ref a), some (.int 170), some (.ref C), some (.int (e : Nat)), some (.ref D), u5, u6]) ∧ H' C = some (.lst (cs.map V.int)) ∧ ∃ rs : List Nat, H' D = some (.lst (rs.map nV)) ∧ rs.length = i * e ∧ ∀ r ∈ rs, r < 1009)
    ⟨s2, ⟨none, none, rfl⟩, by rw [upd_ne CD]; exact upd_same, [], upd_same, by simp, fun r h => nomatch h⟩ (fun i σ H' _ q => SqL.of q.2.2.1) ?_ ?_⟩
  · rintro i x σ Ha hx ⟨t1, ⟨u5, u6, rfl⟩, t2, rs, t3, t4, t5⟩
    obtain ⟨c, h3, rfl⟩ := get_map hx
    have hi : i < cs.length := (List.getElem?_eq_some_iff.mp h3).1
    refine ⟨_, rfl, _, rfl, c, e, rfl, by omega, fun p Hb row pn e1 hp rl rr => ⟨p, rfl, ⟨_, SqL.of hp⟩, for_list (K := K) (a := p) (xs := row.map nV) (fun j σ H' => Same H H' ∧ (∃ u6, σ = [some (.ref a), some (.int 170), some (.ref C), some (.int (e : Nat)), some (.ref D), some (.int c), u6]) ∧ H' C = some (.lst (cs.map V.int)) ∧ H' p = some (.lst (row.map nV)) ∧
      ∃ rs : List Nat, H' D = some (.lst (rs.map nV)) ∧ rs.length = i * e + j ∧ ∀ r ∈ rs, r < 1009) ⟨t1.trans e1, ⟨u6, rfl⟩, e1 _ _ t2, hp, rs, e1 _ _ t3, t4, t5⟩ (fun j σ H' _ q => SqL.of q.2.2.2.1) ?_ ?_⟩⟩
    · rintro j y σ Hc hy ⟨v1, ⟨u6, rfl⟩, v2, v3, rs, v4, v5, v6⟩
      obtain ⟨r, h4, rfl⟩ := get_map hy
      have hj : j < row.length := (List.getElem?_eq_some_iff.mp h4).1
      have bnd : i * e + j < 900 := by
        have : (i + 1) * e ≤ cs.length * e := Nat.mul_le_mul_right e hi
        rw [Nat.add_mul, Nat.one_mul] at this
        omega
      refine ⟨_, rfl, .inl ⟨rfl, _, SqL.of v4⟩, _, rfl, D, _, _, rfl, rfl, v4, small1000 (by rw [List.length_map]; omega), ?_⟩
      have pD : p ≠ D := (ne_of_none t3 pn).symm
      refine ⟨sm_mut v1 DH, ⟨_, rfl⟩, by rw [upd_ne CD]; exact v2, by rw [upd_ne pD]; exact v3, rs ++ [r], ?_, by rw [List.length_append, v5]; rfl, fun q hq => ?_⟩
      · rw [upd_same, List.map_append]
        rfl
      · rcases List.mem_append.mp hq with hq | hq
        · exact v6 q hq
        · rw [List.mem_singleton.mp hq]
          exact rr r (List.mem_of_getElem? h4)
    · rintro σ Hc ⟨v1, ⟨u6, rfl⟩, v2, v3, rs, v4, v5, v6⟩
      refine ⟨v1, ⟨_, _, rfl⟩, v2, rs, v4, ?_, v6⟩
      rw [v5, List.length_map, rl, Nat.add_mul, Nat.one_mul]
  · rintro σ Ha ⟨t1, ⟨u5, u6, rfl⟩, t2, rs, t3, t4, t5⟩
    rw [List.length_map] at t4
    refine ⟨fun m σ H' => Same H H' ∧ (∃ u5 u6, σ = [some (.ref a), some (.int 170), some (.ref C), some (.int (e : Nat)), some (.ref D), u5, u6]) ∧ ∃ rs : List Nat, H' D = some (.lst (rs.map nV)) ∧ m = 170 - rs.length ∧ rs.length ≤ 900 ∧ ∀ r ∈ rs, r < 1009, ⟨_, t1, ⟨_, _, rfl⟩, rs, t3, rfl, by omega, t5⟩, ?_⟩
    rintro m σ Hb ⟨v1, ⟨u5, u6, rfl⟩, rs, v2, rfl, v3, v4⟩
    refine ⟨_, rfl, D, _, rfl, .inl (SqL.of v2), _, rfl, _, _, rfl, rfl, decide (((rs.map nV).length : Int) < 170), rfl, ?_⟩
    rw [List.length_map]
    by_cases h : (rs.length : Int) < 170
    · rw [decide_eq_true h]
      refine iteT ⟨fun σ' H' => Same H H' ∧ (∃ u5 u6, σ' = [some (.ref a), some (.int 170), some (.ref C), some (.int (e : Nat)), some (.ref D), u5, u6]) ∧ ∃ rs' : List Nat, H' D = some (.lst (rs'.map nV)) ∧ rs'.length = rs.length + 1 ∧ ∀ r ∈ rs', r < 1009,
        fun σ' H' ⟨a1, a2, rs', a3, a4, a5⟩ => ⟨_, by omega, a1, a2, rs', a3, rfl, by omega, a5⟩, ?_⟩
      refine ⟨_, rfl, .inl ⟨rfl, _, SqL.of v2⟩, D, _, _, rfl, rfl, v2, small1000 (by rw [List.length_map]; omega), ?_⟩
      refine ⟨sm_mut v1 DH, ⟨_, _, rfl⟩, rs ++ [0], by rw [upd_same, List.map_append]; rfl, by rw [List.length_append]; rfl, fun q hq => ?_⟩
      rcases List.mem_append.mp hq with hq | hq
      · exact v4 q hq
      · rw [List.mem_singleton.mp hq]
        decide
    · rw [decide_eq_false h]
      refine iteF ⟨_, rfl, _, rfl, (170 : Int), rfl, D, _, rfl, SqL.of v2, fun p hp => ?_⟩
      have ep : cutV (rs.map nV) none (some 170) = (rs.take 170).map nV := by
        have := cut_take (rs.map nV) 170
        rw [← List.map_take] at this
        exact this
      rw [ep]
      exact k p _ (rs.take 170) (v1.trans (sm_up hp)) upd_same ⟨by rw [List.length_take]; omega, fun n hn => v4 n (List.mem_of_mem_take hn)⟩
end
/-! ### the law's names -/
theorem lets_cps : (Str.ofString "abcdefghijklmnopqrstuvwxyz0123456789").cps.toList = namCps := by decide +kernel
theorem low_at : ∀ i < 26, namCps[i]? = some (97 + i) := by decide +kernel
theorem nam_at : ∀ i < 36, ∃ c ∈ namCps, namCps[i]? = some c := by decide +kernel
theorem low_mem : ∀ i < 26, 97 + i ∈ lowCps := by decide +kernel
theorem low_nam : ∀ i < 26, 97 + i ∈ namCps := by decide +kernel
def chr (m : Nat) : Nat := namCps.getD (m % 36) 0
theorem chr_at (m : Nat) : namCps[m % 36]? = some (chr m) ∧ chr m ∈ namCps := by
  obtain ⟨c, h1, h2⟩ := nam_at (m % 36) (Nat.mod_lt _ (by decide))
  have e : chr m = c := by
    unfold chr
    rw [List.getD_eq_getElem?_getD, h2]
    rfl
  rw [e]
  exact ⟨h2, h1⟩
theorem app_cps (a b : Str) : (a ++ b).cps.toList = a.cps.toList ++ b.cps.toList := by
  show (a.cps ++ b.cps).toList = _
  simp
theorem join_one : ∀ cs : List Nat, (Str.join ⟨#[]⟩ (cs.map fun c => (⟨#[c]⟩ : Str))).cps.toList = cs
  | [] => rfl
  | [c] => rfl
  | c :: d :: r => by
    have ih := join_one (d :: r)
    show ((⟨#[c]⟩ : Str) ++ ⟨#[]⟩ ++ Str.join ⟨#[]⟩ ((d :: r).map fun c => (⟨#[c]⟩ : Str))).cps.toList = _
    rw [app_cps, app_cps, ih]
    rfl
theorem cutS_take (z : Str) (n : Nat) : (cutS z none (some (n : Int))).cps.toList = z.cps.toList.take n := by
  show (((z.cps.toList.drop (HT.sIx z.length 0 none)).take (HT.sIx z.length z.length (some (n : Int)) - HT.sIx z.length 0 none)).toArray).toList = _
  rw [HT.sIx_none, HT.sIx_nat, List.drop_zero, Nat.sub_zero]
  have e : z.length = z.cps.toList.length := rfl
  rcases Nat.le_total n z.length with h | h
  · rw [Nat.min_eq_left h]
  · rw [Nat.min_eq_right h, e, List.take_length, List.take_of_length_le (e ▸ h)]
theorem cutS_drop (z : Str) (n : Nat) : (cutS z (some (n : Int)) none).cps.toList = z.cps.toList.drop n := by
  show (((z.cps.toList.drop (HT.sIx z.length 0 (some (n : Int)))).take (HT.sIx z.length z.length none - HT.sIx z.length 0 (some (n : Int)))).toArray).toList = _
  rw [HT.sIx_none, HT.sIx_nat]
  have e : z.length = z.cps.toList.length := rfl
  have e2 : ∀ l : List Nat, l.toArray.toList = l := fun l => rfl
  rw [e2]
  rcases Nat.le_total n z.length with h | h
  · rw [Nat.min_eq_left h]
    refine List.take_of_length_le ?_
    rw [List.length_drop, ← e]
    omega
  · rw [Nat.min_eq_right h, e, List.drop_length, List.drop_eq_nil_of_le (e ▸ h)]
    exact List.take_nil
/-- a name that begins with c, made by the law -/
structure Nm (z : Str) (c : Nat) : Prop where
  hd : ∃ r, z.cps.toList = c :: r
  l1 : 2 ≤ z.cps.toList.length
  l2 : z.cps.toList.length ≤ 12
  ch : ∀ x ∈ z.cps.toList, x ∈ namCps
theorem nm_ok {z : Str} {i : Nat} (h : Nm z (97 + i)) (hi : i < 26) : NameOk z := by
  obtain ⟨r, e⟩ := h.hd
  refine ⟨?_, ?_, ⟨97 + i, ?_, low_mem i hi⟩, fun j c hj => h.ch c ?_⟩
  · have := h.l1
    rw [Array.length_toList] at this
    omega
  · have := h.l2
    rw [Array.length_toList] at this
    omega
  · rw [← Array.getElem?_toList, e]
    rfl
  · rw [← Array.getElem?_toList] at hj
    exact List.mem_of_getElem? hj
structure Names (m : Nat) (zs : List Str) : Prop where
  len : zs.length = m
  nd : zs.Nodup
  ok : ∀ z ∈ zs, NameOk z
  two : ∀ z ∈ zs, 2 ≤ z.cps.size
theorem names_of {n m : Nat} {zs : List Str} (hm : m ≤ 10) (hl : zs.length = m) (h : ∀ (j : Nat) z, zs[j]? = some z → Nm z (97 + (n + 3 * j) % 26)) : Names m zs := by
  have hlt : ∀ j, (n + 3 * j) % 26 < 26 := fun j => Nat.mod_lt _ (by decide)
  refine ⟨hl, List.pairwise_iff_getElem.mpr fun i j hi hj hij e => ?_, fun z hz => ?_, fun z hz => ?_⟩
  · obtain ⟨r, h1⟩ := (h i _ (List.getElem?_eq_getElem hi)).hd
    obtain ⟨r', h2⟩ := (h j _ (List.getElem?_eq_getElem hj)).hd
    rw [e, h2] at h1
    injection h1 with h3 _
    omega
  · obtain ⟨j, hj, e⟩ := List.mem_iff_getElem.mp hz
    exact nm_ok (h j z (by rw [← e]; exact List.getElem?_eq_getElem _)) (hlt j)
  · obtain ⟨j, hj, e⟩ := List.mem_iff_getElem.mp hz
    have q := (h j z (by rw [← e]; exact List.getElem?_eq_getElem _)).l1
    rw [Array.length_toList] at q
    exact q
section
variable {P : Program} {w : World} {K : PySem.W.Frag} {mg : Str → Option Value} {base : Heap}
/-- a text of few signs of names -/
structure Few (z : Str) : Prop where
  l : z.cps.toList.length ≤ 10
  ch : ∀ x ∈ z.cps.toList, x ∈ namCps
theorem few_len {z : Str} (h : Few z) : z.length ≤ 10 := by
  have := h.l
  rw [Array.length_toList] at this
  exact this
theorem few_line {z : Str} (h : Few z) : z.length ≤ sizeLine := Nat.le_of_lt (small1000 (by have := few_len h; omega))
theorem ix_let (i : Nat) (h : i < 36) : ∃ c ∈ namCps, atI (Str.ofString "abcdefghijklmnopqrstuvwxyz0123456789").cps.toList (i : Int) = some c := by
  obtain ⟨c, h1, h2⟩ := nam_at i h
  refine ⟨c, h1, ?_⟩
  rw [lets_cps]
  exact atI_nat h2
theorem ix_low (i : Nat) (h : i < 26) : atI (Str.ofString "abcdefghijklmnopqrstuvwxyz0123456789").cps.toList (i : Int) = some (97 + i) := by
  rw [lets_cps]
  exact atI_nat (low_at i h)
theorem lets_line : (Str.ofString "abcdefghijklmnopqrstuvwxyz0123456789").length ≤ sizeLine := Nat.le_of_lt (small1000 (by decide +kernel))
theorem ixc {i : Int} {m : Nat} (e : i = ((m % 36 : Nat) : Int)) : atI (Str.ofString "abcdefghijklmnopqrstuvwxyz0123456789").cps.toList i = some (chr m) := by
  subst e
  rw [lets_cps]
  exact atI_nat (chr_at m).1
theorem ixl {i : Int} {m : Nat} (e : i = ((m % 26 : Nat) : Int)) : atI (Str.ofString "abcdefghijklmnopqrstuvwxyz0123456789").cps.toList i = some (97 + m % 26) := by
  subst e
  exact ix_low (m % 26) (Nat.mod_lt _ (by decide))
theorem few_cut {z : Str} (h : Few z) (n : Nat) : Few (cutS z none (some (n : Int))) ∧ Few (cutS z (some (n : Int)) none) := by
  refine ⟨⟨?_, fun x hx => ?_⟩, ⟨?_, fun x hx => ?_⟩⟩
  · rw [cutS_take, List.length_take]
    have := h.l
    omega
  · rw [cutS_take] at hx
    exact h.ch x (List.mem_of_mem_take hx)
  · rw [cutS_drop, List.length_drop]
    have := h.l
    omega
  · rw [cutS_drop] at hx
    exact h.ch x (List.mem_of_mem_drop hx)
theorem app_len (a b : Str) : (a ++ b).length = a.length + b.length := by
  show (a.cps ++ b.cps).size = _
  rw [Array.size_append]
  rfl
theorem nm_made {ow : Str} (h : Few ow) (sp i : Nat) (c : Nat) (hi : i < 26) (hc : c ∈ namCps) : Nm ((((⟨#[97 + i]⟩ : Str) ++ cutS ow none (some (sp : Int))) ++ ⟨#[c]⟩) ++ cutS ow (some (sp : Int)) none) (97 + i) := by
  have e : ((((⟨#[97 + i]⟩ : Str) ++ cutS ow none (some (sp : Int))) ++ ⟨#[c]⟩) ++ cutS ow (some (sp : Int)) none).cps.toList = (97 + i) :: (ow.cps.toList.take sp ++ c :: ow.cps.toList.drop sp) := by
    rw [app_cps, app_cps, app_cps, cutS_take, cutS_drop]
    simp
  have el : (ow.cps.toList.take sp ++ c :: ow.cps.toList.drop sp).length = ow.cps.toList.length + 1 := by
    rw [List.length_append, List.length_cons, List.length_take, List.length_drop]
    omega
  have hl := h.l
  refine ⟨⟨_, e⟩, by rw [e, List.length_cons, el]; omega, by rw [e, List.length_cons, el]; omega, fun x hx => ?_⟩
  rw [e] at hx
  rcases List.mem_cons.mp hx with q | q
  · rw [q]
    exact low_nam i hi
  · rcases List.mem_append.mp q with q | q
    · exact h.ch x (List.mem_of_mem_take q)
    · rcases List.mem_cons.mp q with q | q
      · rw [q]
        exact hc
      · exact h.ch x (List.mem_of_mem_drop q)
theorem few_join (f : Nat → Nat) (sz : Nat) (hsz : sz ≤ 10) : Few (Txt.join (Str.ofString "") ((List.range sz).map fun k => (⟨#[chr (f k)]⟩ : Str))) := by
  have e0 : Str.ofString "" = ⟨#[]⟩ := by decide +kernel
  have e : (Txt.join (Str.ofString "") ((List.range sz).map fun k => (⟨#[chr (f k)]⟩ : Str))).cps.toList = (List.range sz).map fun k => chr (f k) := by
    rw [TL.join_eq, e0]
    have := join_one ((List.range sz).map fun k => chr (f k))
    rw [List.map_map] at this
    exact this
  refine ⟨by rw [e, List.length_map, List.length_range]; exact hsz, fun x hx => ?_⟩
  rw [e] at hx
  obtain ⟨k, _, rfl⟩ := List.mem_map.mp hx
  exact (chr_at _).2
theorem sum_ones (f : Nat → Nat) (sz : Nat) : (((List.range sz).map fun k => (⟨#[chr (f k)]⟩ : Str)).map (·.length)).sum = sz := by
  rw [List.map_map]
  have : ((fun s : Str => s.length) ∘ fun k => (⟨#[chr (f k)]⟩ : Str)) = fun _ => 1 := rfl
  rw [this, List.map_const', List.sum_replicate_nat, List.length_range, Nat.mul_one]
def spLawNames (K : PySem.W.Frag) : Sp := fun vs H Q _ => ∃ (n m : Nat), vs = [.int (n : Int), .int (m : Int)] ∧ m ≤ 10 ∧ ∀ p H' zs, Same H H' → H' p = some (.lst (zs.map V.str)) → Names m zs → Q (.ref p) H'
abbrev nmLawNames : List Str := ["_law_number", "_law_many", "_law_letters", "_law_size", "_law_rest", "_law_place", "_law_names_here", "_law_k", "_law_own", "_law_spot", "_law_step", "_law_first"]
theorem scLawNames : FnScope nmLawNames ["_law_number", "_law_many"] (defScope sLawNames) := ⟨rfl, rfl, rfl, by decide +kernel, rfl, by decide +kernel, by decide +kernel⟩
theorem ok_law_names (T : Txt K mg) : Has P w K mg base 1 "_law_names" ["_law_number", "_law_many"] (spLawNames K) := by
  refine has_of T.dLawNames T.gLawNames scLawNames (fun vs H Q E h => by obtain ⟨n, m, rfl, _⟩ := h; rfl) (fun _ _ _ _ _ _ us hl => match us, hl with | [_, _], _ => rfl) fun cdv A outer s H vs Q E hr h => ?_
  obtain ⟨n, m, rfl, mz, k⟩ := h
  refine ⟨_, pss_cons (ps_set (i := 2) scLawNames.nd rfl (.inr rfl) pe_str)
    (pss_cons (ps_set (i := 3) scLawNames.nd rfl (.inl rfl) (pe_op op_mod (pe_iC (pv 0) T.fInt) pe_int))
    (pss_cons (ps_set (i := 4) scLawNames.nd rfl (.inl rfl) (pe_join pe_str (pe_lc (own := [("_law_k", 7)]) (g := gName 7) (by rfl) scLawNames.nd (pi_range1 (by rfl) T.fRange (pa_cons (pv 3) pa_nil)) (blkOk_by (N := nmLawNames) (sc := defScope sLawNames) (by decide +kernel))
        (fun _ _ _ _ _ => pg_name (i := 7) scLawNames.nd rfl (Or.inl rfl)) (fun _ _ _ _ _ => pts_nil) (fun _ _ _ _ _ => pe_ix ix_str (pv 2) (pe_op op_mod (pe_iC (pe_op op_add (pv 0) (pe_op op_mul (pe_op op_mul pe_int (pv 7)) (pv 7))) T.fInt) pe_int) (fun _ _ => rfl)))))
    (pss_cons (ps_set (i := 5) scLawNames.nd rfl (.inl rfl) (pe_op op_mod (pe_iC (pe_op op_fdiv (pv 0) pe_int) T.fInt) (pe_op op_add (pv 3) pe_int)))
    (pss_cons (ps_set (i := 6) scLawNames.nd rfl (.inl rfl) (pe_lst pa_nil))
    (pss_cons (ps_for PassesOwn.never rfl (pi_range1 (by rfl) T.fRange (pa_cons (pv 1) pa_nil)) (pg_name (i := 7) scLawNames.nd rfl (.inl rfl))
      (pss_cons (ps_set (i := 8) scLawNames.nd rfl (.inl rfl) (pv 4))
      (C8.pss_cut (ps_if (pt_cmpR op_eq (pe_op op_mod (pe_iC (pe_op op_add (pe_op op_fdiv (pv 0) pe_int) (pv 7)) T.fInt) pe_int) pe_int (nomark _)) (pss_one (ps_set (i := 8) scLawNames.nd rfl (.inl rfl) (pe_slice sl_str (pv 4) (po_some pe_int) po_none))) pss_nil)
      (pss_cons (ps_set (i := 9) scLawNames.nd rfl (.inl rfl) (pe_callB (call_min2 rfl) (by rfl) T.fMin (by decide +kernel) (pa_cons (pv 5) (pa_cons (pe_callB call_len_str (by rfl) T.fLen PySem.boot_len (pa_cons (pv 8) pa_nil)) pa_nil))))
      (pss_cons (ps_set (i := 10) scLawNames.nd rfl (.inl rfl) pe_int)
      (C8.pss_cut (ps_if (pt_cmpR op_eq (pe_op op_mod (pe_iC (pe_op op_fdiv (pv 0) pe_int) T.fInt) pe_int) pe_int (nomark _)) (pss_one (ps_set (i := 10) scLawNames.nd rfl (.inl rfl) pe_int)) pss_nil)
      (pss_cons (ps_set (i := 11) scLawNames.nd rfl (.inl rfl) (pe_op op_add_str (pe_ix ix_str (pv 2) (pe_op op_mod (pe_iC (pe_op op_add (pv 0) (pe_op op_mul pe_int (pv 7))) T.fInt) pe_int) (fun _ _ => rfl)) (pe_slice sl_str (pv 8) po_none (po_some (pv 9)))))
      (pss_one (ps_expr (pe_bm PySem.F.plainAttrs_list PySem.F.slot_list_append PySem.F.type_list_append mt_append (pv 6) (pa_cons
        (pe_op op_add_str (pe_op op_add_str (pv 11) (pe_ix ix_str (pv 2) (pe_op op_mod (pe_iC (pe_op op_add (pv 0) (pe_op op_mul (pv 10) (pv 7))) T.fInt) pe_int) (fun _ _ => rfl))) (pe_slice sl_str (pv 8) (po_some (pv 9)) po_none)) pa_nil)))))))))))
    (pss_one (ps_ret (pv 6)))))))), ?_⟩
  obtain ⟨sz, esz, hsz⟩ := mod_nat (n : Int) 11 (by decide)
  refine ⟨_, rfl, _, rfl, _, _, rfl, rfl, pgt rfl, ?_⟩
  have eV : (fun i j : Int => V.int (i % j)) (n : Int) 11 = V.int (sz : Int) := congrArg V.int esz
  rw [eV]
  -- the rest
  refine ⟨⟨_, rfl⟩, _, rfl, (sz : Int), rfl, (by omega), (by omega), fun D hD => lc_data (K := K) walk_range hD (fun i => ((List.range i).map fun k => (⟨#[chr (n + 7 * k * k)]⟩ : Str)).map PyData.str) rfl (fun i hi => ?_) (fun _ _ => trivial) ?_ ?_⟩
  · rw [List.length_map, List.length_map, List.length_range]
    exact small1000 (by omega)
  · rintro i x H1 H2 N hi e1 ⟨rfl, rfl⟩ kY kN
    refine ⟨rfl, _, rfl, _, rfl, _, rfl, _, _, rfl, rfl, .inl (by decide), _, rfl, _, _, rfl, rfl, .inl (by constructor <;> omega), _, _, rfl, rfl, _, rfl, _, _, rfl, rfl, pgt rfl, _, _, _, rfl, rfl, lets_line, ixc (m := n + 7 * i * i) ?_, ?_⟩
    · rw [Int.zero_add]
      push_cast
      rfl
    · refine kY _ _ (.str _) (Same.refl _) (.str _) rfl ?_
      rw [List.range_succ, List.map_append, List.map_append]
      rfl
  intro H1 s1 hls
  obtain ⟨acc, hA, hda, _⟩ := hls
  rw [Int.toNat_natCast] at hda
  rw [dpa_ofStrs hda] at hA
  clear hda
  refine ⟨_, D, _, rfl, rfl, .inl (SqL.of hA), ?_, ?_⟩
  · have e0 : (Str.ofString "").length = 0 := by decide +kernel
    rw [sum_ones, e0]
    omega
  have fr := few_join (fun k => n + 7 * k * k) sz (by omega)
  generalize Txt.join (Str.ofString "") ((List.range sz).map fun k => (⟨#[chr (n + 7 * k * k)]⟩ : Str)) = rest at fr ⊢
  obtain ⟨pl, epl, hpl⟩ := mod_nat ((n : Int) / 11) (sz + 1) (by omega)
  refine ⟨_, rfl, _, _, rfl, rfl, (by unfold CDiv; decide), _, rfl, _, rfl, _, _, rfl, rfl, _, _, rfl, rfl, (by show (0 : Int) < (sz : Int) + 1; omega), ?_⟩
  have eV2 : (fun i j : Int => V.int (i % j)) ((n : Int) / 11) ((sz : Int) + 1) = V.int (pl : Int) := congrArg V.int epl
  rw [eV2]
  refine ⟨Nat.zero_le _, fun D2 hD2 => ?_⟩
  have s2 := s1.trans (sm_up (o := .lst []) hD2)
  have D2H : H D2 = none := s1.free hD2
  refine ⟨_, rfl, (m : Int), rfl, (by omega), (by omega), for_it walk_range (fun i σ H' => Same H H' ∧ (∃ u7 u8 u9 u10 u11, σ = [some (.int (n : Int)), some (.int (m : Int)), some (.str "abcdefghijklmnopqrstuvwxyz0123456789"), some (.int (sz : Int)), some (.str rest), some (.int (pl : Int)), some (.ref D2), u7, u8, u9, u10, u11]) ∧
    ∃ zs : List Str, H' D2 = some (.lst (zs.map V.str)) ∧ zs.length = i ∧ ∀ (j : Nat) z, zs[j]? = some z → Nm z (97 + (n + 3 * j) % 26)) ⟨s2, ⟨_, _, _, _, _, rfl⟩, [], upd_same, rfl, fun j z h => by simp at h⟩ (fun _ _ _ _ _ => trivial) ?_ ?_⟩
  · rintro i x σ Ha Hb hi ⟨t1, ⟨u7, u8, u9, u10, u11, rfl⟩, zs, t2, t3, t4⟩ ⟨rfl, rfl⟩
    rw [Int.toNat_natCast] at hi
    refine ⟨_, rfl, ?_⟩
    refine ⟨fun σ' H' => H' = Hb ∧ ∃ ow : Str, Few ow ∧ σ' = [some (.int (n : Int)), some (.int (m : Int)), some (.str "abcdefghijklmnopqrstuvwxyz0123456789"), some (.int (sz : Int)), some (.str rest), some (.int (pl : Int)), some (.ref D2), some (.int (0 + (i : Int))), some (.str ow), u9, u10, u11], ?_, ?_⟩
    · refine ⟨_, rfl, _, _, rfl, rfl, (by unfold CDiv; decide), _, rfl, _, _, rfl, rfl, _, rfl, _, _, rfl, rfl, pgt rfl, rfl, _, rfl, ?_⟩
      refine ite2 (fun _ => ⟨_, rfl, 1, rfl, rest, rfl, few_line fr, rfl, _, (few_cut fr 1).2, rfl⟩) fun _ => ⟨rfl, rest, fr, rfl⟩
    rintro σ' H' ⟨rfl, ow, fo, rfl⟩
    have ol := few_len fo
    refine ⟨_, rfl, _, rfl, ow, rfl, few_line fo, _, _, rfl, ?_⟩
    have esp : (if ((ow.length : Nat) : Int) < (pl : Int) then ((ow.length : Nat) : Int) else (pl : Int)) = ((min pl ow.length : Nat) : Int) := by
      split <;> omega
    rw [esp]
    generalize min pl ow.length = sp
    refine ⟨fun σ' H'' => H'' = H' ∧ ∃ st : Nat, st ≤ 31 ∧ σ' = [some (.int (n : Int)), some (.int (m : Int)), some (.str "abcdefghijklmnopqrstuvwxyz0123456789"), some (.int (sz : Int)), some (.str rest), some (.int (pl : Int)), some (.ref D2), some (.int (0 + (i : Int))), some (.str ow), some (.int (sp : Int)), some (.int (st : Int)), u11], ?_, ?_⟩
    · refine ⟨_, rfl, _, _, rfl, rfl, (by unfold CDiv; decide), _, rfl, _, _, rfl, rfl, pgt rfl, rfl, _, rfl, ?_⟩
      exact ite2 (fun _ => ⟨rfl, 31, (by decide), rfl⟩) fun _ => ⟨rfl, 5, (by decide), rfl⟩
    rintro σ' H'' ⟨rfl, st, hst, rfl⟩
    refine ⟨_, rfl, _, rfl, _, rfl, _, _, rfl, rfl, .inl (by decide), _, _, rfl, rfl, _, rfl, _, _, rfl, rfl, pgt rfl, _, _, _, rfl, rfl, lets_line, ixl (m := n + 3 * i) ?_, ?_⟩
    · rw [Int.zero_add]
      push_cast
      rfl
    have lc : ∀ c : Nat, (⟨#[c]⟩ : Str).length = 1 := fun _ => rfl
    have f1 := few_len (few_cut fo sp).1
    have f2 := few_len (few_cut fo sp).2
    refine ⟨_, rfl, _, rfl, (sp : Int), rfl, ow, rfl, few_line fo, _, _, rfl, rfl, Nat.le_of_lt (small1000 (by rw [lc]; omega)), ?_⟩
    refine ⟨_, rfl, .inl ⟨rfl, _, SqL.of t2⟩, _, rfl, _, rfl, _, rfl, _, rfl, _, rfl, _, _, rfl, rfl, .inl (by constructor <;> omega), _, _, rfl, rfl, _, rfl, _, _, rfl, rfl, pgt rfl, _, _, _, rfl, rfl, lets_line, ixc (m := n + st * i) ?_, _, _, rfl, rfl, ?_, ?_⟩
    · rw [Int.zero_add]
      push_cast
      rfl
    · refine Nat.le_of_lt (small1000 ?_)
      rw [app_len, lc, lc]
      omega
    refine ⟨_, rfl, _, rfl, (sp : Int), rfl, ow, rfl, few_line fo, _, _, rfl, rfl, ?_, D2, _, _, rfl, rfl, t2, small1000 (by rw [List.length_map]; omega), ?_⟩
    · refine Nat.le_of_lt (small1000 ?_)
      rw [app_len, app_len, lc, lc]
      omega
    refine ⟨sm_mut t1 D2H, ⟨_, _, _, _, _, rfl⟩, zs ++ [_], by rw [upd_same, List.map_append]; rfl, by rw [List.length_append, t3]; rfl, fun j z hz => ?_⟩
    by_cases hj : j < zs.length
    · rw [List.getElem?_append_left hj] at hz
      exact t4 j z hz
    · rw [List.getElem?_append_right (by omega)] at hz
      have hj0 : j - zs.length = 0 := by
        by_cases q : j - zs.length = 0
        · exact q
        · rw [List.getElem?_eq_none (by simp; omega)] at hz
          cases hz
      rw [hj0] at hz
      cases hz
      have ej : j = i := by omega
      subst ej
      exact nm_made fo sp _ _ (Nat.mod_lt _ (by decide)) (chr_at _).2
  · rintro σ Ha ⟨t1, ⟨u7, u8, u9, u10, u11, rfl⟩, zs, t2, t3, t4⟩
    rw [Int.toNat_natCast] at t3
    exact ⟨_, rfl, k D2 Ha zs t1 t2 (names_of mz t3 t4)⟩
end
def rNiP (K : PySem.W.Frag) : R2 := fun x y H Q => ∃ d ds, Dp K H x d ∧ Dp K H y (.list ds) ∧ PyData.plainAll ds = true ∧ d.plain = true ∧ d.depth ≤ 50 ∧ Q (.bl (!ds.any fun e => PyData.eqv e d)) H
theorem op_niP {X : Cx} (hu : X.A.units + 64 < cLine) : OpR X (compareOp .NotIn) (rNiP X.K) := by
  intro pins s σ H x y v u Q I rx ry h
  obtain ⟨d, ds, hd, hds, p1, p2, dp, q⟩ := h
  obtain ⟨as, r1⟩ := Dp.reads I d x v hd rx
  obtain ⟨bs, r2⟩ := Dp.reads I (.list ds) y u hds ry
  exact SeqAt.notIn_list_data r2 r1 p1 p2 (by have := Nat.min_le_right (PyData.depthAll ds) d.depth; omega) ⟨.bl _, H, I, rfl, q⟩
theorem num_at {ns : List Nat} (N : Nums ns) (j : Nat) (hj : j < 170) : ∃ n : Nat, n < 1009 ∧ ∀ i : Int, i = (j : Int) → atI (ns.map nV) i = some (.int (n : Int)) := by
  have h : ns[j]? = some (ns[j]'(by rw [N.len]; exact hj)) := List.getElem?_eq_getElem _
  refine ⟨ns[j]'(by rw [N.len]; exact hj), N.rng _ (List.getElem_mem _), fun i e => ?_⟩
  subst e
  refine atI_nat ?_
  rw [List.getElem?_map, h]
  rfl
/-- another one of n places -/
theorem oth_ne {i r n : Nat} (hi : i < n) (hr : r + 2 ≤ n) : (i + 1 + r) % n ≠ i ∧ (i + 1 + r) % n < n := by
  refine ⟨fun e => ?_, Nat.mod_lt _ (by omega)⟩
  rcases Nat.lt_or_ge (i + 1 + r) n with h | h
  · rw [Nat.mod_eq_of_lt h] at e
    omega
  · rw [Nat.mod_eq_sub_mod h, Nat.mod_eq_of_lt (by omega)] at e
    omega
theorem oth_int {i n np : Nat} (h : 2 ≤ np) : (((i : Int) + 1 + (n : Int) % ((np : Int) - 1)) % (np : Int)) = (((i + 1 + n % (np - 1)) % np : Nat) : Int) := by
  have e : (np : Int) - 1 = ((np - 1 : Nat) : Int) := by omega
  rw [e]
  push_cast
  rfl
theorem lsAt_mut {K : PySem.W.Frag} {H : Hp} {D T : Addr} {ds : List PyData} {xs : List V} {ys : HO} (h : LsAt K H D ds) (ht : H T = some (.lst xs)) (ne : D ≠ T) : LsAt K (upd H T ys) D ds := by
  obtain ⟨acc, h1, h2, h3⟩ := h
  exact ⟨acc, by rw [upd_ne ne]; exact h1, dpa_tps (tps_upd ht trivial) _ _ h3 h2, h3⟩
/-- a land's parts, as the law makes them -/
def PartsAt (K : PySem.W.Frag) (H : Hp) (p : Addr) (L : LandD) : Prop := ∃ w pl l pa, SqL K H p [.ref w, .ref pl, .ref l, .ref pa] ∧ TupN H w (L.winds.map V.str) ∧ SqT K H pl (L.places.map V.str) ∧ Dp K H (.ref l) (.tuple (L.links.map lkD)) ∧ Dp K H (.ref pa) (.tuple (L.paths.map paD))
theorem parts_sm {K : PySem.W.Frag} {H H' : Hp} (e : Same H H') {p : Addr} {L : LandD} (h : PartsAt K H p L) : PartsAt K H' p L := by
  obtain ⟨w, pl, l, pa, h1, h2, h3, h4, h5⟩ := h
  exact ⟨w, pl, l, pa, e.seq h1, tupN_sm e h2, sm_tup e h3, dp_sm e _ _ h4, dp_sm e _ _ h5⟩
structure PartsOk (L : LandD) : Prop where
  ok : LandOk L
  nm : LandNm L
  p2 : 2 ≤ L.places.length
  p7 : L.places.length ≤ 7
  l10 : L.links.length ≤ 10
section
variable {P : Program} {w : World} {K : PySem.W.Frag} {mg : Str → Option Value} {base : Heap}
def spLawParts (K : PySem.W.Frag) : Sp := fun vs H Q _ => ∃ (a : Addr) (ns : List Nat), vs = [.ref a, .int 0] ∧ SqL K H a (ns.map nV) ∧ Nums ns ∧ ∀ p H' L, Same H H' → PartsAt K H' p L → PartsOk L → L.winds.length ≤ 3 → (∀ z ∈ L.winds, 2 ≤ z.cps.size) → Q (.ref p) H'
abbrev nmLawParts : List Str := ["_law_numbers_here", "_law_at", "_law_winds", "_law_places", "_law_names_here", "_law_links", "_law_k", "_law_spot", "_law_one", "_law_other", "_law_times", "_law_j", "_law_least", "_law_paths", "_law_known", "_law_path"]
theorem scLawParts : FnScope nmLawParts ["_law_numbers_here", "_law_at"] (defScope sLawParts) := ⟨rfl, rfl, rfl, by decide +kernel, rfl, by decide +kernel, by decide +kernel⟩
set_option maxHeartbeats 8000000 in
theorem ok_law_parts (T : Txt K mg) : Has P w K mg base 2 "_law_parts" ["_law_numbers_here", "_law_at"] (spLawParts K) := by
  have Gn : Has P w K mg base 1 "_law_names" ["_law_number", "_law_many"] (spLawNames K) := ok_law_names T
  refine has_of T.dLawParts T.gLawParts scLawParts (fun vs H Q E h => by obtain ⟨a, ns, rfl, _⟩ := h; rfl) (fun _ _ _ _ _ _ us hl => match us, hl with | [_, _], _ => rfl) fun cdv A outer s H vs Q E hr h => ?_
  obtain ⟨a, ns, rfl, hS, N, k⟩ := h
  refine ⟨_, pss_cons (ps_set (i := 2) scLawParts.nd rfl (.inl rfl) (pe_f Gn hr (by rfl) (pa_cons (pe_ix ix_list (pv 0) (pv 1) (fun _ _ => rfl)) (pa_cons (pe_op op_add pe_int (pe_op op_mod (pe_iC (pe_ix ix_list (pv 0) (pe_op op_add (pv 1) pe_int) (fun _ _ => rfl)) T.fInt) pe_int)) pa_nil))))
    (pss_cons (ps_set (i := 3) scLawParts.nd rfl (.inl rfl) (pe_f Gn hr (by rfl) (pa_cons (pe_ix ix_list (pv 0) (pe_op op_add (pv 1) pe_int) (fun _ _ => rfl)) (pa_cons (pe_op op_add pe_int (pe_op op_mod (pe_iC (pe_ix ix_list (pv 0) (pe_op op_add (pv 1) pe_int) (fun _ _ => rfl)) T.fInt) pe_int)) pa_nil))))
    (pss_cons (ps_set (i := 4) scLawParts.nd rfl (.inl rfl) (pe_f Gn hr (by rfl) (pa_cons (pe_ix ix_list (pv 0) (pe_op op_add (pv 1) pe_int) (fun _ _ => rfl)) (pa_cons pe_int pa_nil))))
    (pss_cons (ps_set (i := 5) scLawParts.nd rfl (.inl rfl) (pe_lst pa_nil))
    (pss_cons (ps_for PassesOwn.never rfl (pi_range1 (by rfl) T.fRange (pa_cons (pe_op op_mod (pe_iC (pe_ix ix_list (pv 0) (pe_op op_add (pv 1) pe_int) (fun _ _ => rfl)) T.fInt) pe_int) pa_nil)) (pg_name (i := 6) scLawParts.nd rfl (.inl rfl))
    (pss_cons (ps_set (i := 7) scLawParts.nd rfl (.inl rfl) (pe_op op_add (pe_op op_add (pv 1) pe_int) (pe_op op_mul pe_int (pv 6))))
    (pss_cons (ps_set (i := 8) scLawParts.nd rfl (.inl rfl) (pe_op op_mod (pe_iC (pe_ix ix_list (pv 0) (pv 7) (fun _ _ => rfl)) T.fInt) (pe_callB call_len_seq (by rfl) T.fLen PySem.boot_len (pa_cons (pv 3) pa_nil))))
    (pss_cons (ps_set (i := 9) scLawParts.nd rfl (.inl rfl) (pe_op op_mod (pe_iC (pe_op op_add (pe_op op_add (pv 8) pe_int) (pe_op op_mod (pe_iC (pe_ix ix_list (pv 0) (pe_op op_add (pv 7) pe_int) (fun _ _ => rfl)) T.fInt) (pe_op op_sub (pe_callB call_len_seq (by rfl) T.fLen PySem.boot_len (pa_cons (pv 3) pa_nil)) pe_int))) T.fInt) (pe_callB call_len_seq (by rfl) T.fLen PySem.boot_len (pa_cons (pv 3) pa_nil))))
    (pss_cons (ps_set (i := 10) scLawParts.nd rfl (.inl rfl) (pe_lst pa_nil))
    (pss_cons (ps_for PassesOwn.never rfl (pi_range1 (by rfl) T.fRange (pa_cons (pe_callB call_len_seq (by rfl) T.fLen PySem.boot_len (pa_cons (pv 2) pa_nil)) pa_nil)) (pg_name (i := 11) scLawParts.nd rfl (.inl rfl))
    (pss_one (ps_if (pt_cmpR op_eq (pe_op op_mod (pe_iC (pe_ix ix_list (pv 0) (pe_op op_add (pe_op op_add (pv 7) pe_int) (pv 11)) (fun _ _ => rfl)) T.fInt) pe_int) pe_int (nomark _))
    (pss_one (ps_expr (pe_bm PySem.F.plainAttrs_list PySem.F.slot_list_append PySem.F.type_list_append mt_append (pv 10) (pa_cons pe_non pa_nil))))
    (pss_cons (ps_set (i := 12) scLawParts.nd rfl (.inl rfl) (pe_op op_add pe_int (pe_op op_mod (pe_iC (pe_ix ix_list (pv 0) (pe_op op_add (pe_op op_add (pv 7) pe_int) (pv 11)) (fun _ _ => rfl)) T.fInt) pe_int)))
    (pss_one (ps_expr (pe_bm PySem.F.plainAttrs_list PySem.F.slot_list_append PySem.F.type_list_append mt_append (pv 10) (pa_cons (pe_tup (pa_cons (pv 12) (pa_cons (pe_op op_add (pv 12) (pe_op op_mod (pe_iC (pe_ix ix_list (pv 0) (pe_op op_add (pe_op op_add (pv 7) pe_int) (pv 11)) (fun _ _ => rfl)) T.fInt) pe_int)) pa_nil))) pa_nil))))))))
    (pss_one (ps_expr (pe_bm PySem.F.plainAttrs_list PySem.F.slot_list_append PySem.F.type_list_append mt_append (pv 5) (pa_cons (pe_tup (pa_cons (pe_ix ix_list (pv 4) (pv 6) (fun _ _ => rfl)) (pa_cons (pe_ix ix_list (pv 3) (pv 8) (fun _ _ => rfl)) (pa_cons (pe_ix ix_list (pv 3) (pv 9) (fun _ _ => rfl)) (pa_cons (pe_callTy cTupNw (by rfl) T.fTuple (by decide +kernel) (pa_cons (pv 10) pa_nil)) pa_nil))))) pa_nil))))))))))
    (pss_cons (ps_set (i := 13) scLawParts.nd rfl (.inl rfl) (pe_lst pa_nil))
    (pss_cons (ps_for PassesOwn.never rfl (pi_range1 (by rfl) T.fRange (pa_cons (pe_op op_mod (pe_iC (pe_ix ix_list (pv 0) (pe_op op_add (pv 1) pe_int) (fun _ _ => rfl)) T.fInt) pe_int) pa_nil)) (pg_name (i := 6) scLawParts.nd rfl (.inl rfl))
    (pss_cons (ps_set (i := 8) scLawParts.nd rfl (.inl rfl) (pe_op op_mod (pe_iC (pe_ix ix_list (pv 0) (pe_op op_add (pe_op op_add (pv 1) pe_int) (pe_op op_mul pe_int (pv 6))) (fun _ _ => rfl)) T.fInt) (pe_callB call_len_seq (by rfl) T.fLen PySem.boot_len (pa_cons (pv 3) pa_nil))))
    (pss_cons (ps_set (i := 9) scLawParts.nd rfl (.inl rfl) (pe_op op_mod (pe_iC (pe_op op_add (pe_op op_add (pv 8) pe_int) (pe_op op_mod (pe_iC (pe_ix ix_list (pv 0) (pe_op op_add (pe_op op_add (pv 1) pe_int) (pe_op op_mul pe_int (pv 6))) (fun _ _ => rfl)) T.fInt) (pe_op op_sub (pe_callB call_len_seq (by rfl) T.fLen PySem.boot_len (pa_cons (pv 3) pa_nil)) pe_int))) T.fInt) (pe_callB call_len_seq (by rfl) T.fLen PySem.boot_len (pa_cons (pv 3) pa_nil))))
    (pss_cons (ps_set (i := 14) scLawParts.nd rfl (.inl rfl) (pe_op op_cat (pe_lc (own := [("_law_path", 15)]) (g := gName 15) (by rfl) scLawParts.nd (pi_list (pv 13)) (blkOk_by (N := nmLawParts) (sc := defScope sLawParts) (by decide +kernel)) (fun _ _ _ _ _ => pg_name (i := 15) scLawParts.nd rfl (Or.inl rfl)) (fun _ _ _ _ _ => pts_nil) (fun _ _ _ _ _ => (pe_tup (pa_cons (pe_ix (ixT_ K) (pv 15) pe_int (fun _ _ => rfl)) (pa_cons (pe_ix (ixT_ K) (pv 15) pe_int (fun _ _ => rfl)) pa_nil))))) (pe_lc (own := [("_law_path", 15)]) (g := gName 15) (by rfl) scLawParts.nd (pi_list (pv 13)) (blkOk_by (N := nmLawParts) (sc := defScope sLawParts) (by decide +kernel)) (fun _ _ _ _ _ => pg_name (i := 15) scLawParts.nd rfl (Or.inl rfl)) (fun _ _ _ _ _ => pts_nil) (fun _ _ _ _ _ => (pe_tup (pa_cons (pe_ix (ixT_ K) (pv 15) pe_int (fun _ _ => rfl)) (pa_cons (pe_ix (ixT_ K) (pv 15) pe_int (fun _ _ => rfl)) pa_nil)))))))
    (pss_one (ps_if (pt_cmpR (op_niP hr.units) (pe_tup (pa_cons (pe_ix ix_list (pv 3) (pv 8) (fun _ _ => rfl)) (pa_cons (pe_ix ix_list (pv 3) (pv 9) (fun _ _ => rfl)) pa_nil))) (pv 14) (by rfl)) (pss_one (ps_expr (pe_bm PySem.F.plainAttrs_list PySem.F.slot_list_append PySem.F.type_list_append mt_append (pv 13) (pa_cons (pe_tup (pa_cons (pe_ix ix_list (pv 3) (pv 8) (fun _ _ => rfl)) (pa_cons (pe_ix ix_list (pv 3) (pv 9) (fun _ _ => rfl)) (pa_cons (pe_op op_add pe_int (pe_op op_mod (pe_iC (pe_ix ix_list (pv 0) (pe_op op_add (pe_op op_add (pv 1) pe_int) (pe_op op_mul pe_int (pv 6))) (fun _ _ => rfl)) T.fInt) pe_int)) pa_nil)))) pa_nil)))) pss_nil))))))
    (pss_one (ps_ret (pe_lst (pa_cons (pe_callTy cTupNw (by rfl) T.fTuple (by decide +kernel) (pa_cons (pv 2) pa_nil)) (pa_cons (pe_callTy cTupNw (by rfl) T.fTuple (by decide +kernel) (pa_cons (pv 3) pa_nil)) (pa_cons (pe_callTy cTupNw (by rfl) T.fTuple (by decide +kernel) (pa_cons (pv 5) pa_nil)) (pa_cons (pe_callTy cTupNw (by rfl) T.fTuple (by decide +kernel) (pa_cons (pv 13) pa_nil)) pa_nil))))))))))))), ?_⟩
  obtain ⟨n0, _, e0⟩ := num_at N 0 (by decide)
  obtain ⟨n1, _, e1⟩ := num_at N 1 (by decide)
  obtain ⟨n2, _, e2⟩ := num_at N 2 (by decide)
  obtain ⟨n3, _, e3⟩ := num_at N 3 (by decide)
  obtain ⟨n4, _, e4⟩ := num_at N 4 (by decide)
  obtain ⟨n5, _, e5⟩ := num_at N 5 (by decide)
  obtain ⟨n88, _, e88⟩ := num_at N 88 (by decide)
  refine ⟨_, rfl, _, rfl, a, _, _, _, rfl, rfl, hS, e0 _ rfl, _, rfl, _, rfl, _, _, rfl, rfl, a, _, _, _, rfl, rfl, hS, e1 _ rfl, _, rfl, _, _, rfl, rfl, pgt rfl, _, _, rfl, rfl, n0, 1 + n1 % 3, rfl, (by omega), fun W H1 ws s1 hW Nw => ?_⟩
  have hS1 := s1.seq hS
  refine ⟨_, rfl, _, rfl, _, _, rfl, rfl, a, _, _, _, rfl, rfl, hS1, e2 _ rfl, _, rfl, _, rfl, _, _, rfl, rfl, a, _, _, _, rfl, rfl, hS1, e3 _ rfl, _, rfl, _, _, rfl, rfl, pgt rfl, _, _, rfl, rfl, n2, 2 + n3 % 6, rfl, (by omega), fun Pl H2 ps s2 hP Np => ?_⟩
  have hS2 := s2.seq hS1
  refine ⟨_, rfl, _, rfl, _, _, rfl, rfl, a, _, _, _, rfl, rfl, hS2, e4 _ rfl, n4, 10, rfl, (by omega), fun M H3 ms s3 hM Nm' => ?_⟩
  have hS3 := s3.seq hS2
  have hW3 := (s2.trans s3) _ _ hW
  have hP3 := s3 _ _ hP
  have wl := Nw.len
  have np := Np.len
  have ml := Nm'.len
  have pl2 : (ps.map V.str).length = ps.length := List.length_map _
  have wl2 : (ws.map V.str).length = ws.length := List.length_map _
  clear hS1 hS2 hW hP
  refine ⟨Nat.zero_le _, fun D hD => ?_⟩
  obtain ⟨cnt, ec, hcnt⟩ := mod_nat (n5 : Int) 11 (by decide)
  have d0 := sm_up (o := .lst []) hD
  refine ⟨_, rfl, _, rfl, _, _, rfl, rfl, a, _, _, _, rfl, rfl, d0.seq hS3, e5 _ rfl, _, rfl, _, _, rfl, rfl, pgt rfl, (cnt : Int), congrArg (fun z => [V.int z]) ec, (by omega), (by omega),
    for_it walk_range (fun i σ H' => Same H3 H' ∧ (∃ u6 u7 u8 u9 u10 u11 u12, σ = [some (.ref a), some (.int 0), some (.ref W), some (.ref Pl), some (.ref M), some (.ref D), u6, u7, u8, u9, u10, u11, u12, none, none, none]) ∧
      ∃ links : List Lk, LsAt K H' D (links.map lkD) ∧ links.length = i ∧ (∀ l ∈ links, LkOk ws ps l) ∧ links.map (·.nm) = ms.take i) ⟨d0, ⟨_, _, _, _, _, _, _, rfl⟩, [], ⟨[], upd_same, .nil, rfl⟩, rfl, (fun l h => nomatch h), rfl⟩ (fun _ _ _ _ _ => trivial) ?_ ?_⟩
  · rintro i x σ Ha Hb hi ⟨t1, ⟨u6, u7, u8, u9, u10, u11, u12, rfl⟩, links, t2, t3, t4, t5⟩ ⟨rfl, rfl⟩
    rw [Int.toNat_natCast] at hi
    have hS4 := t1.seq hS3
    have hP4 := t1 _ _ hP3
    obtain ⟨x6, _, e6⟩ := num_at N (6 + 8 * i) (by omega)
    obtain ⟨x7, _, e7⟩ := num_at N (7 + 8 * i) (by omega)
    refine ⟨_, rfl, _, _, rfl, rfl, _, rfl, _, _, rfl, rfl, .inl (by decide), _, _, rfl, rfl, ?_⟩
    refine ⟨_, rfl, _, rfl, a, _, _, _, rfl, rfl, hS4, e6 _ (by omega), _, rfl, _, rfl, Pl, _, rfl, .inl (SqL.of hP4), _, _, rfl, rfl, (by show (0 : Int) < ((ps.map V.str).length : Int); omega), ?_⟩
    have v1 : (fun i j : Int => V.int (i % j)) (x6 : Int) ((ps.map V.str).length : Int) = V.int ((x6 % ps.length : Nat) : Int) := by
      rw [pl2]
      rfl
    rw [v1]
    have i1 : x6 % ps.length < ps.length := Nat.mod_lt _ (by omega)
    generalize x6 % ps.length = one at i1
    refine ⟨_, rfl, _, _, rfl, rfl, _, rfl, _, rfl, _, _, rfl, rfl, a, _, _, _, rfl, rfl, hS4, e7 _ (by omega), _, rfl, _, rfl, Pl, _, rfl, .inl (SqL.of hP4), _, _, rfl, rfl, _, _, rfl, rfl, (by show (0 : Int) < ((ps.map V.str).length : Int) - 1; omega), _, _, rfl, rfl, _, rfl, _, rfl, Pl, _, rfl, .inl (SqL.of hP4), _, _, rfl, rfl, (by show (0 : Int) < ((ps.map V.str).length : Int); omega), ?_⟩
    have v2 : (fun i j : Int => V.int (i % j)) ((one : Int) + 1 + (x7 : Int) % (((ps.map V.str).length : Int) - 1)) ((ps.map V.str).length : Int) = V.int (((one + 1 + x7 % (ps.length - 1)) % ps.length : Nat) : Int) := by
      rw [pl2]
      exact congrArg V.int (oth_int (by omega))
    rw [v2]
    have r2 : x7 % (ps.length - 1) < ps.length - 1 := Nat.mod_lt _ (by omega)
    obtain ⟨o1, o2⟩ := oth_ne (i := one) (r := x7 % (ps.length - 1)) (n := ps.length) i1 (by omega)
    generalize (one + 1 + x7 % (ps.length - 1)) % ps.length = oth at o1 o2
    refine ⟨Nat.zero_le _, fun Tt hT => ?_⟩
    have DT : D ≠ Tt := by
      obtain ⟨acc, h, _⟩ := t2
      exact ne_of_none h hT
    have TH : H3 Tt = none := t1.free hT
    have t6 := t1.trans (sm_up (o := .lst []) hT)
    refine ⟨_, rfl, W, _, rfl, .inl (SqL.of (t6 _ _ hW3)), ((ws.map V.str).length : Int), rfl, (by omega), (by omega),
      for_it walk_range (fun j σ H' => Same H3 H' ∧ (∃ u11 u12, σ = [some (.ref a), some (.int 0), some (.ref W), some (.ref Pl), some (.ref M), some (.ref D), some (.int (0 + (i : Int))), some (.int (0 + 6 + 8 * (0 + (i : Int)))), some (.int (one : Int)), some (.int (oth : Int)), some (.ref Tt), u11, u12, none, none, none]) ∧ LsAt K H' D (links.map lkD) ∧
        ∃ ts : List Pr, LsAt K H' Tt (ts.map prD) ∧ ts.length = j ∧ ∀ t ∈ ts, prOk t) ⟨t6, ⟨_, _, rfl⟩, lsAt_sm (sm_up hT) t2, [], ⟨[], upd_same, .nil, rfl⟩, rfl, fun t h => nomatch h⟩ (fun _ _ _ _ _ => trivial) ?_ ?_⟩
    · rintro j y σ Hc Hd hj ⟨v1, ⟨u11, u12, rfl⟩, v2, ts, v3, v4, v5⟩ ⟨rfl, rfl⟩
      rw [Int.toNat_natCast, wl2] at hj
      have hS5 := v1.seq hS3
      obtain ⟨x8, _, e8⟩ := num_at N (8 + 8 * i + j) (by omega)
      obtain ⟨x11, _, e11⟩ := num_at N (11 + 8 * i + j) (by omega)
      obtain ⟨acc, hA, hda, hnl⟩ := v3
      have al : acc.length < sizeLine := by
        rw [dpa_len hda, List.length_map]
        exact small1000 (by omega)
      refine ⟨_, rfl, _, rfl, _, _, rfl, rfl, _, rfl, _, _, rfl, rfl, a, _, _, _, rfl, rfl, hS5, e8 _ (by omega), _, rfl, _, _, rfl, rfl, pgt rfl, rfl, _, rfl, ?_⟩
      refine ite2 (fun _ => ?_) fun _ => ?_
      · refine ⟨_, rfl, .inl ⟨rfl, _, SqL.of hA⟩, Tt, _, _, rfl, rfl, hA, al, ?_⟩
        refine ⟨sm_mut v1 TH, ⟨_, _, rfl⟩, lsAt_mut v2 hA DT, ts ++ [none], ?_, by rw [List.length_append, v4]; rfl, fun t ht => ?_⟩
        · rw [List.map_append]
          exact lsAt_app hA hda hnl .non rfl
        · rcases List.mem_append.mp ht with ht | ht
          · exact v5 t ht
          · rw [List.mem_singleton.mp ht]
            exact trivial
      · refine ⟨_, rfl, _, rfl, _, _, rfl, rfl, _, rfl, _, _, rfl, rfl, a, _, _, _, rfl, rfl, hS5, e8 _ (by omega), _, rfl, _, _, rfl, rfl, pgt rfl, _, _, rfl, rfl, ?_⟩
        refine ⟨_, rfl, .inl ⟨rfl, _, SqL.of hA⟩, _, rfl, _, rfl, _, rfl, _, rfl, _, _, rfl, rfl, _, rfl, _, _, rfl, rfl, a, _, _, _, rfl, rfl, hS5, e11 _ (by omega), _, rfl, _, _, rfl, rfl, pgt rfl, _, _, rfl, rfl, (by show 2 ≤ sizeLine; decide), fun q hq => ?_⟩
        have f1 := sm_up (o := .tup [.int (1 + (x8 : Int) % 9), .int (1 + (x8 : Int) % 9 + (x11 : Int) % 7)]) hq
        refine ⟨Tt, _, _, rfl, rfl, f1 _ _ hA, al, ?_⟩
        refine ⟨sm_mut (v1.trans f1) TH, ⟨_, _, rfl⟩, lsAt_mut (lsAt_sm f1 v2) (f1 _ _ hA) DT, ts ++ [some (1 + (x8 : Int) % 9, 1 + (x8 : Int) % 9 + (x11 : Int) % 7)], ?_, by rw [List.length_append, v4]; rfl, fun t ht => ?_⟩
        · rw [List.map_append]
          exact lsAt_app (f1 _ _ hA) (dpa_sm f1 _ _ hda) hnl (.tup (SqT.of upd_same) (.cons (.int _) (.cons (.int _) .nil))) (nl_pr (some _))
        · rcases List.mem_append.mp ht with ht | ht
          · exact v5 t ht
          · rw [List.mem_singleton.mp ht]
            show 1 ≤ 1 + (x8 : Int) % 9 ∧ 1 + (x8 : Int) % 9 ≤ 1 + (x8 : Int) % 9 + (x11 : Int) % 7 ∧ 1 + (x8 : Int) % 9 + (x11 : Int) % 7 ≤ 1000
            omega
    · rintro σ Hc ⟨v1, ⟨u11, u12, rfl⟩, v2, ts, v3, v4, v5⟩
      rw [Int.toNat_natCast, wl2] at v4
      obtain ⟨acc, hA, hda, hnl⟩ := v3
      obtain ⟨acc2, hA2, hda2, hnl2⟩ := v2
      have hM5 := (v1 _ _ hM)
      have hP5 := v1 _ _ hP3
      have mi : ms[i]? = some (ms[i]'(by omega)) := List.getElem?_eq_getElem _
      have pi1 : ps[one]? = some (ps[one]'i1) := List.getElem?_eq_getElem _
      have pi2 : ps[oth]? = some (ps[oth]'o2) := List.getElem?_eq_getElem _
      have at1 : ∀ {l : List Str} {j : Nat} {z : Str} {m : Int}, l[j]? = some z → m = (j : Int) → atI (l.map V.str) m = some (.str z) := fun h e => by
        subst e
        refine atI_nat ?_
        rw [List.getElem?_map, h]
        rfl
      refine ⟨_, rfl, .inl ⟨rfl, _, SqL.of hA2⟩, _, rfl, _, rfl, M, _, _, _, rfl, rfl, SqL.of hM5, at1 mi (by omega), _, rfl, _, rfl, Pl, _, _, _, rfl, rfl, SqL.of hP5, at1 pi1 rfl, _, rfl, _, rfl, Pl, _, _, _, rfl, rfl, SqL.of hP5, at1 pi2 rfl, _, rfl, Tt, _, rfl, SqL.of hA, fun tq Hd htq s4 htn => ⟨(by show 4 ≤ sizeLine; decide), fun lq hlq => ?_⟩⟩
      have f1 := sm_up (o := .tup [.str (ms[i]'(by omega)), .str (ps[one]'i1), .str (ps[oth]'o2), .ref tq]) hlq
      have f2 := s4.trans f1
      have lx : Dp K (upd Hd lq (.tup [.str (ms[i]'(by omega)), .str (ps[one]'i1), .str (ps[oth]'o2), .ref tq])) (.ref lq) (lkD ⟨ms[i]'(by omega), ps[one]'i1, ps[oth]'o2, ts⟩) :=
        .tup (SqT.of upd_same) (.cons (.str _) (.cons (.str _) (.cons (.str _) (.cons (.tup (sm_tup f1 (tupN_sq htn)) (dpa_sm f2 _ _ hda)) .nil))))
      refine ⟨D, _, _, rfl, rfl, f2 _ _ hA2, ?_, ?_⟩
      · rw [dpa_len hda2, List.length_map]
        exact small1000 (by omega)
      · refine ⟨sm_mut (v1.trans f2) hD, ⟨_, _, _, _, _, _, _, rfl⟩, links ++ [⟨ms[i]'(by omega), ps[one]'i1, ps[oth]'o2, ts⟩], ?_, by rw [List.length_append, t3]; rfl, fun l hl => ?_, ?_⟩
        · rw [List.map_append]
          exact lsAt_app (f2 _ _ hA2) (dpa_sm f2 _ _ hda2) hnl2 lx (nl_lk _)
        · rcases List.mem_append.mp hl with hl | hl
          · exact t4 l hl
          · rw [List.mem_singleton.mp hl]
            refine ⟨List.getElem_mem _, List.getElem_mem _, fun q => o1 ?_, v4, fun lo hi' h => v5 _ h⟩
            exact (nd_ix Np.nd (x := ps[one]'i1) pi1 (by rw [pi2]; exact congrArg some q.symm)).symm
        · rw [List.map_append, t5, take_snoc mi]
          rfl
  · rintro σ Ha ⟨t1, ⟨u6, u7, u8, u9, u10, u11, u12, rfl⟩, links, t2, t3, t4, t5⟩
    rw [Int.toNat_natCast] at t3 t5
    have hS4 := t1.seq hS3
    have hP4 := t1 _ _ hP3
    refine ⟨Nat.zero_le _, fun D3 hD3 => ?_⟩
    have d3 := sm_up (o := .lst []) hD3
    obtain ⟨c2, ec2, hc2⟩ := mod_nat (n88 : Int) 7 (by decide)
    refine ⟨_, rfl, _, rfl, _, _, rfl, rfl, a, _, _, _, rfl, rfl, d3.seq hS4, e88 _ rfl, _, rfl, _, _, rfl, rfl, pgt rfl, (c2 : Int), congrArg (fun z => [V.int z]) ec2, (by omega), (by omega),
      for_it walk_range (fun i σ H' => Same Ha H' ∧ (∃ u6 u8 u9 u14, σ = [some (.ref a), some (.int 0), some (.ref W), some (.ref Pl), some (.ref M), some (.ref D), u6, u7, u8, u9, u10, u11, u12, some (.ref D3), u14, none]) ∧
        ∃ paths : List Pa, LsAt K H' D3 (paths.map paD) ∧ paths.length ≤ i ∧ PathsOk ps paths) ⟨d3, ⟨_, _, _, _, rfl⟩, [], ⟨[], upd_same, .nil, rfl⟩, Nat.le_refl _, Nat.zero_le _, (fun l h => nomatch h), fun i j p q _ h => by simp at h⟩ (fun _ _ _ _ _ => trivial) ?_ ?_⟩
    · rintro i x σ Hb Hc hi ⟨v1, ⟨u6', u8', u9', u14, rfl⟩, paths, v2, v3, v4⟩ ⟨rfl, rfl⟩
      rw [Int.toNat_natCast] at hi
      have hS5 := v1.seq hS4
      have hP5 := v1 _ _ hP4
      obtain ⟨x0, _, y0⟩ := num_at N (89 + 3 * i) (by omega)
      obtain ⟨x1, _, y1⟩ := num_at N (90 + 3 * i) (by omega)
      obtain ⟨x2, _, y2⟩ := num_at N (91 + 3 * i) (by omega)
      refine ⟨_, rfl, _, rfl, _, _, rfl, rfl, _, rfl, _, _, rfl, rfl, .inl (by decide), _, _, rfl, rfl, a, _, _, _, rfl, rfl, hS5, y0 _ (by omega), _, rfl, _, rfl, Pl, _, rfl, .inl (SqL.of hP5), _, _, rfl, rfl, (by show (0 : Int) < ((ps.map V.str).length : Int); omega), ?_⟩
      have w1 : (fun i j : Int => V.int (i % j)) (x0 : Int) ((ps.map V.str).length : Int) = V.int ((x0 % ps.length : Nat) : Int) := by
        rw [pl2]
        rfl
      rw [w1]
      have i1 : x0 % ps.length < ps.length := Nat.mod_lt _ (by omega)
      generalize x0 % ps.length = one at i1
      refine ⟨_, rfl, _, _, rfl, rfl, _, rfl, _, rfl, _, _, rfl, rfl, _, rfl, _, _, rfl, rfl, .inl (by decide), _, _, rfl, rfl, a, _, _, _, rfl, rfl, hS5, y1 _ (by omega), _, rfl, _, rfl, Pl, _, rfl, .inl (SqL.of hP5), _, _, rfl, rfl, _, _, rfl, rfl, (by show (0 : Int) < ((ps.map V.str).length : Int) - 1; omega), _, _, rfl, rfl, _, rfl, _, rfl, Pl, _, rfl, .inl (SqL.of hP5), _, _, rfl, rfl, (by show (0 : Int) < ((ps.map V.str).length : Int); omega), ?_⟩
      have w2 : (fun i j : Int => V.int (i % j)) ((one : Int) + 1 + (x1 : Int) % (((ps.map V.str).length : Int) - 1)) ((ps.map V.str).length : Int) = V.int (((one + 1 + x1 % (ps.length - 1)) % ps.length : Nat) : Int) := by
        rw [pl2]
        exact congrArg V.int (oth_int (by omega))
      rw [w2]
      have r2 : x1 % (ps.length - 1) < ps.length - 1 := Nat.mod_lt _ (by omega)
      obtain ⟨o1, o2⟩ := oth_ne (i := one) (r := x1 % (ps.length - 1)) (n := ps.length) i1 (by omega)
      generalize (one + 1 + x1 % (ps.length - 1)) % ps.length = oth at o1 o2
      have pi1 : ps[one]? = some (ps[one]'i1) := List.getElem?_eq_getElem _
      have pi2 : ps[oth]? = some (ps[oth]'o2) := List.getElem?_eq_getElem _
      have at1 : ∀ {l : List Str} {j : Nat} {z : Str} {m : Int}, l[j]? = some z → m = (j : Int) → atI (l.map V.str) m = some (.str z) := fun h e => by
        subst e
        refine atI_nat ?_
        rw [List.getElem?_map, h]
        rfl
      -- the known ends
      obtain ⟨acc, hA, hda, hnl⟩ := v2
      have al : acc.length = paths.length := by rw [dpa_len hda, List.length_map]
      refine ⟨_, rfl, D3, rfl, ⟨_, SqL.of hA⟩, fun K1 hK1 => lc_data (K := K) walk_list hK1 (fun i => (paths.take i).map fun p => prS (p.one, p.oth)) rfl (fun i hi => ?_) (fun H' e => SqL.of (e _ _ hA)) ?_ ?_⟩
      · rw [List.length_map, List.length_take]
        exact small1000 (by omega)
      · rintro j u He Hf N2 hj s4 ⟨rfl, hu⟩ kY kN
        obtain ⟨d, h1, h2⟩ := dpa_get hda hu
        obtain ⟨r, h3, rfl⟩ := get_map h1
        obtain ⟨ra, ys, rfl, hra, hys⟩ := dp_tup (dp_sm s4 _ _ h2)
        obtain ⟨z1, z2, z3, rfl, hz1, hz2, hz3⟩ := dpa_3 hys
        obtain rfl := dp_str hz1
        obtain rfl := dp_str hz2
        refine ⟨rfl, _, rfl, ra, _, 0, _, rfl, rfl, hra, rfl, _, rfl, ra, _, 1, _, rfl, rfl, hra, rfl, (by show 2 ≤ sizeLine; decide), fun q hq => ?_⟩
        refine kY _ _ (prS (r.one, r.oth)) (sm_up hq) (.tup (SqT.of upd_same) (.cons (.str _) (.cons (.str _) .nil))) (nl_prS _) ?_
        rw [take_snoc h3, List.map_append]
        rfl
      intro He s4 hls1
      rw [al, List.take_length] at hls1
      obtain ⟨ac1, hA1, hd1, hn1⟩ := hls1
      have hA4 := s4 _ _ hA
      refine ⟨_, rfl, D3, rfl, ⟨_, SqL.of hA4⟩, fun K2 hK2 => lc_data (K := K) walk_list hK2 (fun i => (paths.take i).map fun p => prS (p.oth, p.one)) rfl (fun i hi => ?_) (fun H' e => SqL.of (e _ _ hA4)) ?_ ?_⟩
      · rw [List.length_map, List.length_take]
        exact small1000 (by omega)
      · rintro j u Hf Hg N2 hj s5 ⟨rfl, hu⟩ kY kN
        obtain ⟨d, h1, h2⟩ := dpa_get hda hu
        obtain ⟨r, h3, rfl⟩ := get_map h1
        obtain ⟨ra, ys, rfl, hra, hys⟩ := dp_tup (dp_sm (s4.trans s5) _ _ h2)
        obtain ⟨z1, z2, z3, rfl, hz1, hz2, hz3⟩ := dpa_3 hys
        obtain rfl := dp_str hz1
        obtain rfl := dp_str hz2
        refine ⟨rfl, _, rfl, ra, _, 1, _, rfl, rfl, hra, rfl, _, rfl, ra, _, 0, _, rfl, rfl, hra, rfl, (by show 2 ≤ sizeLine; decide), fun q hq => ?_⟩
        refine kY _ _ (prS (r.oth, r.one)) (sm_up hq) (.tup (SqT.of upd_same) (.cons (.str _) (.cons (.str _) .nil))) (nl_prS _) ?_
        rw [take_snoc h3, List.map_append]
        rfl
      intro Hf s5 hls2
      rw [al, List.take_length] at hls2
      obtain ⟨ac2, hA2, hd2, hn2⟩ := hls2
      have l1 : ac1.length = paths.length := by rw [dpa_len hd1, List.length_map]
      have l2 : ac2.length = paths.length := by rw [dpa_len hd2, List.length_map]
      refine ⟨_, _, ac1, ac2, rfl, rfl, s5 _ _ hA1, hA2, Nat.le_of_lt (small1000 (by omega)), fun q hq => ?_⟩
      have s6 := sm_up (o := .lst (ac1 ++ ac2)) hq
      have s7 := (s4.trans s5).trans s6
      have hP7 := s7 _ _ hP5
      refine ⟨_, rfl, _, rfl, Pl, _, _, _, rfl, rfl, SqL.of hP7, at1 pi1 rfl, _, rfl, _, rfl, Pl, _, _, _, rfl, rfl, SqL.of hP7, at1 pi2 rfl, (by show 2 ≤ sizeLine; decide), fun q2 hq2 => ?_⟩
      have s8 := s7.trans (sm_up (o := .tup [.str (ps[one]'i1), .str (ps[oth]'o2)]) hq2)
      have q2q : q ≠ q2 := ne_of_none upd_same hq2
      refine ⟨_, rfl, prS (ps[one]'i1, ps[oth]'o2), (paths.map fun p => prS (p.one, p.oth)) ++ (paths.map fun p => prS (p.oth, p.one)), .tup (SqT.of upd_same) (.cons (.str _) (.cons (.str _) .nil)), ?_, ?_, prS_plain _, prS_depth _, _, rfl, ?_⟩
      · have g := s6.trans (sm_up (o := .tup [.str (ps[one]'i1), .str (ps[oth]'o2)]) hq2)
        exact .lst (SqL.of (by rw [upd_ne q2q]; exact upd_same)) (dpa_app (dpa_sm (s5.trans g) _ _ hd1) (dpa_sm g _ _ hd2))
      · have := prS_plainAll ((paths.map fun p => (p.one, p.oth)) ++ paths.map fun p => (p.oth, p.one))
        rw [List.map_append, List.map_map, List.map_map] at this
        exact this
      refine ite2 (fun c => ?_) fun _ => ?_
      · have hP8 := s8 _ _ hP5
        have c1 : ∀ p ∈ paths, ¬ (p.one = ps[one]'i1 ∧ p.oth = ps[oth]'o2) ∧ ¬ (p.one = ps[oth]'o2 ∧ p.oth = ps[one]'i1) := fun p hp => by
          rw [Bool.not_eq_true', List.any_eq_false] at c
          constructor
          · rintro ⟨g1, g2⟩
            refine c (prS (p.one, p.oth)) (List.mem_append.mpr (.inl (List.mem_map.mpr ⟨p, hp, rfl⟩))) ?_
            rw [prS_eqv, decide_eq_true (by rw [g1, g2])]
          · rintro ⟨g1, g2⟩
            refine c (prS (p.oth, p.one)) (List.mem_append.mpr (.inr (List.mem_map.mpr ⟨p, hp, rfl⟩))) ?_
            rw [prS_eqv, decide_eq_true (by rw [g1, g2])]
        refine ⟨_, rfl, .inl ⟨rfl, _, SqL.of (s8 _ _ hA)⟩, _, rfl, _, rfl, Pl, _, _, _, rfl, rfl, SqL.of hP8, at1 pi1 rfl, _, rfl, _, rfl, Pl, _, _, _, rfl, rfl, SqL.of hP8, at1 pi2 rfl, _, rfl, _, rfl, _, _, rfl, rfl, _, rfl, _, _, rfl, rfl, .inl (by decide), _, _, rfl, rfl, a, _, _, _, rfl, rfl, s8.seq hS5, y2 _ (by omega), _, rfl, _, _, rfl, rfl, pgt rfl, _, _, rfl, rfl, (by show 3 ≤ sizeLine; decide), fun q3 hq3 => ?_⟩
        have s9 := s8.trans (sm_up (o := .tup [.str (ps[one]'i1), .str (ps[oth]'o2), .int (1 + (x2 : Int) % 9)]) hq3)
        refine ⟨D3, _, _, rfl, rfl, s9 _ _ hA, small1000 (by omega), ?_⟩
        refine ⟨sm_mut (v1.trans s9) hD3, ⟨_, _, _, _, rfl⟩, paths ++ [⟨ps[one]'i1, ps[oth]'o2, 1 + (x2 : Int) % 9⟩], ?_, by rw [List.length_append]; exact Nat.add_le_add_right v3 1, by rw [List.length_append]; show paths.length + 1 ≤ 60; omega, fun p hp => ?_, fun i' j' p q' hij hp' hq' => ?_⟩
        · rw [List.map_append]
          exact lsAt_app (s9 _ _ hA) (dpa_sm s9 _ _ hda) hnl (.tup (SqT.of upd_same) (.cons (.str _) (.cons (.str _) (.cons (.int _) .nil)))) (nl_pa _)
        · rcases List.mem_append.mp hp with hp | hp
          · exact v4.ok p hp
          · rw [List.mem_singleton.mp hp]
            refine ⟨List.getElem_mem _, List.getElem_mem _, fun z => o1 ?_, ?_, ?_⟩
            · exact (nd_ix Np.nd (x := ps[one]'i1) pi1 (by rw [pi2]; exact congrArg some z.symm)).symm
            · show 1 ≤ 1 + (x2 : Int) % 9
              omega
            · show 1 + (x2 : Int) % 9 ≤ 1000
              omega
        · by_cases hj : j' < paths.length
          · rw [List.getElem?_append_left (by omega)] at hp'
            rw [List.getElem?_append_left hj] at hq'
            exact v4.df i' j' p q' hij hp' hq'
          · rw [List.getElem?_append_right (by omega)] at hq'
            have hj0 : j' - paths.length = 0 := by
              by_cases z : j' - paths.length = 0
              · exact z
              · rw [List.getElem?_eq_none (by simp; omega)] at hq'
                cases hq'
            rw [hj0] at hq'
            cases hq'
            rw [List.getElem?_append_left (by omega)] at hp'
            exact c1 p (List.mem_of_getElem? hp')
      · exact ⟨v1.trans s8, ⟨_, _, _, _, rfl⟩, paths, ⟨acc, s8 _ _ hA, dpa_sm s8 _ _ hda, hnl⟩, Nat.le_succ_of_le v3, v4⟩
    · rintro σ Hb ⟨v1, ⟨u6', u8', u9', u14, rfl⟩, paths, v2, v3, v4⟩
      rw [Int.toNat_natCast] at v3
      obtain ⟨acc, hA, hda, _⟩ := t2
      obtain ⟨ac2, hA2, hd2, _⟩ := v2
      have hW5 := v1 _ _ (t1 _ _ hW3)
      have hP5 := v1 _ _ hP4
      refine ⟨_, rfl, W, _, rfl, SqL.of hW5, fun wq Hc _ g1 twq => ⟨_, rfl, Pl, _, rfl, SqL.of (g1 _ _ hP5), fun pq Hd _ g2 tpq => ⟨_, rfl, D, _, rfl, SqL.of ((g1.trans g2) _ _ (v1 _ _ hA)), fun lq He _ g3 tlq => ⟨_, rfl, D3, _, rfl, SqL.of (((g1.trans g2).trans g3) _ _ hA2), fun aq Hf _ g4 taq => ⟨(by show 4 ≤ sizeLine; decide), fun p hp => ?_⟩⟩⟩⟩⟩
      have g5 := sm_up (o := .lst [.ref wq, .ref pq, .ref lq, .ref aq]) hp
      have t9 : Same H3 Hb := t1.trans v1
      refine k p _ ⟨ws, ps, links, paths⟩ ((((((((s1.trans s2).trans s3).trans t9).trans g1).trans g2).trans g3).trans g4).trans g5) ⟨wq, pq, lq, aq, SqL.of upd_same, tupN_sm (((g2.trans g3).trans g4).trans g5) twq, tupN_sq (tupN_sm ((g3.trans g4).trans g5) tpq), .tup (tupN_sq (tupN_sm (g4.trans g5) tlq)) (dpa_sm (((((v1.trans g1).trans g2).trans g3).trans g4).trans g5) _ _ hda),
        .tup (tupN_sq (tupN_sm g5 taq)) (dpa_sm ((((g1.trans g2).trans g3).trans g4).trans g5) _ _ hd2)⟩ ⟨⟨?_, ?_, Nw.nd, ?_, ?_, Np.nd, ?_, t4⟩, ⟨Nw.ok, Np.ok, fun l hl => ?_, ?_, v4⟩, ?_, ?_, ?_⟩ ?_ Nw.two
      · show 1 ≤ ws.length
        omega
      · show ws.length ≤ 4
        omega
      · show 1 ≤ ps.length
        omega
      · show ps.length ≤ 24
        omega
      · show links.length ≤ 60
        omega
      · have : l.nm ∈ ms.take cnt := t5 ▸ List.mem_map.mpr ⟨l, hl, rfl⟩
        exact Nm'.ok _ (List.mem_of_mem_take this)
      · show (links.map (·.nm)).Nodup
        rw [t5]
        exact Nm'.nd.sublist (List.take_sublist _ _)
      · show 2 ≤ ps.length
        omega
      · show ps.length ≤ 7
        omega
      · show links.length ≤ 10
        omega
      · show ws.length ≤ 3
        omega
end
theorem at_mod {ss : List Str} (x : Nat) (h : 0 < ss.length) : ∃ z ∈ ss, atI (ss.map V.str) ((x : Int) % ((ss.map V.str).length : Int)) = some (.str z) := by
  have lt : x % ss.length < ss.length := Nat.mod_lt _ h
  refine ⟨ss[x % ss.length]'lt, List.getElem_mem _, ?_⟩
  have e : ((x : Int) % ((ss.map V.str).length : Int)) = ((x % ss.length : Nat) : Int) := by
    rw [List.length_map]
    rfl
  rw [e]
  refine atI_nat ?_
  rw [List.getElem?_map, List.getElem?_eq_getElem lt]
  rfl
structure WtI (winds : List Str) (wt : List (Int × Str)) (n : Nat) : Prop where
  len : wt.length = n + 1
  at0 : ∀ r, wt[0]? = some r → r.1 = 0
  asc : ∀ (i : Nat) r s, wt[i]? = some r → wt[i + 1]? = some s → r.1 < s.1
  mem : ∀ r ∈ wt, r.2 ∈ winds
  top : ∀ r ∈ wt, r.1 ≤ 20 * (n + 1)
theorem wtI_one {winds : List Str} {z : Str} (h : z ∈ winds) : WtI winds [(0, z)] 0 := by
  refine ⟨rfl, fun r hr => by cases hr; rfl, fun i r s _ hs => by simp at hs, fun r hr => ?_, fun r hr => ?_⟩ <;> rw [List.mem_singleton.mp hr]
  · exact h
  · show (0 : Int) ≤ 20 * (((0 : Nat) : Int) + 1)
    decide
theorem wtI_more {winds : List Str} {wt : List (Int × Str)} {n : Nat} (W : WtI winds wt n) {r : Int × Str} (hr : wt[n]? = some r) {t : Int} {z : Str} (h1 : r.1 < t) (h2 : t ≤ r.1 + 20) (hz : z ∈ winds) : WtI winds (wt ++ [(t, z)]) (n + 1) := by
  have tr := W.top r (List.mem_of_getElem? hr)
  have len := W.len
  refine ⟨by rw [List.length_append, len]; rfl, fun s hs => ?_, fun i a b ha hb => ?_, fun s hs => ?_, fun s hs => ?_⟩
  · rw [List.getElem?_append_left (by omega)] at hs
    exact W.at0 s hs
  · by_cases hi : i + 1 < wt.length
    · rw [List.getElem?_append_left (by omega)] at ha
      rw [List.getElem?_append_left hi] at hb
      exact W.asc i a b ha hb
    · have hi2 : i + 1 < (wt ++ [(t, z)]).length := (List.getElem?_eq_some_iff.mp hb).1
      rw [List.length_append] at hi2
      have hi3 : i + 1 < wt.length + 1 := hi2
      have ei : i = n := by omega
      subst ei
      rw [List.getElem?_append_left (by omega), hr] at ha
      rw [List.getElem?_append_right (by omega)] at hb
      have e0 : i + 1 - wt.length = 0 := by omega
      rw [e0] at hb
      cases ha
      cases hb
      exact h1
  · rcases List.mem_append.mp hs with hs | hs
    · exact W.mem s hs
    · rw [List.mem_singleton.mp hs]
      exact hz
  · rcases List.mem_append.mp hs with hs | hs
    · have := W.top s hs
      push_cast
      omega
    · rw [List.mem_singleton.mp hs]
      push_cast
      show t ≤ 20 * ((n : Int) + 1 + 1)
      omega
theorem wtI_ok {winds : List Str} {wt : List (Int × Str)} {n : Nat} (W : WtI winds wt n) (hn : n < 40) : WOk wt := ⟨by have := W.len; omega, by have := W.len; omega, W.at0, W.asc, fun r hr => by have := W.top r hr; omega⟩
theorem windAt_of {winds : List Str} {wt : List (Int × Str)} (W : WOk wt) (hm : ∀ r ∈ wt, r.2 ∈ winds) (s : Int) (hs : 0 ≤ s) : ∃ x, windAt wt s = some x ∧ x ∈ winds := by
  have l := W.ne
  have h0 : wt[0]? = some (wt[0]'l) := List.getElem?_eq_getElem _
  have z := W.at0 _ h0
  have mem : wt[0]'l ∈ wt.filter fun r => decide (r.1 ≤ s) := List.mem_filter.mpr ⟨List.getElem_mem _, decide_eq_true (by omega)⟩
  have ne : wt.filter (fun r => decide (r.1 ≤ s)) ≠ [] := fun e => by
    rw [e] at mem
    cases mem
  unfold windAt
  rw [List.getLast?_eq_some_getLast ne]
  exact ⟨_, rfl, hm _ (List.mem_filter.mp (List.getLast_mem ne)).1⟩
section
variable {P : Program} {w : World} {K : PySem.W.Frag} {mg : Str → Option Value} {base : Heap}
/-! ### the law's weather -/
def spLawWeather (K : PySem.W.Frag) : Sp := fun vs H Q _ => ∃ (a : Addr) (ns : List Nat) (p : Addr) (L : LandD), vs = [.ref a, .int 145, .ref p] ∧ SqL K H a (ns.map nV) ∧ Nums ns ∧ PartsAt K H p L ∧ 1 ≤ L.winds.length ∧ ∀ v H' wt, Same H H' → Dp K H' v (.list (wt.map wrD)) → WOk wt → (∀ r ∈ wt, r.2 ∈ L.winds) → Q v H'
abbrev nmLawWeather : List Str := ["_law_numbers_here", "_law_at", "_law_parts_here", "_law_weather_here", "_law_k", "_law_wind"]
theorem scLawWeather : FnScope nmLawWeather ["_law_numbers_here", "_law_at", "_law_parts_here"] (defScope sLawWeather) := ⟨rfl, rfl, rfl, by decide +kernel, rfl, by decide +kernel, by decide +kernel⟩
theorem ok_law_weather (T : Txt K mg) : Has P w K mg base 1 "_law_weather" ["_law_numbers_here", "_law_at", "_law_parts_here"] (spLawWeather K) := by
  refine has_of T.dLawWeather T.gLawWeather scLawWeather (fun vs H Q E h => by obtain ⟨a, ns, p, L, rfl, _⟩ := h; rfl) (fun _ _ _ _ _ _ us hl => match us, hl with | [_, _, _], _ => rfl) fun cdv A outer s H vs Q E hr h => ?_
  obtain ⟨a, ns, p, L, rfl, hS, N, hP, w1, k⟩ := h
  obtain ⟨wd, pl, l, pa, hL, hw, _⟩ := id hP
  have hwt : SqT K H wd (L.winds.map V.str) := tupN_sq hw
  refine ⟨_, pss_cons (ps_set (i := 3) scLawWeather.nd rfl (.inl rfl) (pe_lst (pa_cons (pe_tup (pa_cons pe_int (pa_cons (pe_ix ix_tup (pe_ix ix_list (pv 2) pe_int (fun _ _ => rfl)) (pe_op op_mod (pe_iC (pe_ix ix_list (pv 0) (pv 1) (fun _ _ => rfl)) T.fInt) (pe_callB call_len_seq (by rfl) T.fLen PySem.boot_len (pa_cons (pe_ix ix_list (pv 2) pe_int (fun _ _ => rfl)) pa_nil))) (fun _ _ => rfl)) pa_nil))) pa_nil)))
    (pss_cons (ps_for PassesOwn.never rfl (pi_range1 (by rfl) T.fRange (pa_cons (pe_op op_mod (pe_iC (pe_ix ix_list (pv 0) (pe_op op_add (pv 1) pe_int) (fun _ _ => rfl)) T.fInt) pe_int) pa_nil)) (pg_name (i := 4) scLawWeather.nd rfl (.inl rfl))
    (pss_cons (ps_set (i := 5) scLawWeather.nd rfl (.inl rfl) (pe_ix ix_tup (pe_ix ix_list (pv 2) pe_int (fun _ _ => rfl)) (pe_op op_mod (pe_iC (pe_ix ix_list (pv 0) (pe_op op_add (pe_op op_add (pv 1) pe_int) (pv 4)) (fun _ _ => rfl)) T.fInt) (pe_callB call_len_seq (by rfl) T.fLen PySem.boot_len (pa_cons (pe_ix ix_list (pv 2) pe_int (fun _ _ => rfl)) pa_nil))) (fun _ _ => rfl)))
    (pss_one (ps_expr (pe_bm PySem.F.plainAttrs_list PySem.F.slot_list_append PySem.F.type_list_append mt_append (pv 3) (pa_cons (pe_tup (pa_cons (pe_op op_add (pe_op op_add (pe_ix ix_tup (pe_ix ix_list (pv 3) (pv 4) (fun _ _ => rfl)) pe_int (fun _ _ => rfl)) pe_int) (pe_op op_mod (pe_iC (pe_ix ix_list (pv 0) (pe_op op_add (pe_op op_add (pv 1) pe_int) (pv 4)) (fun _ _ => rfl)) T.fInt) pe_int)) (pa_cons (pv 5) pa_nil))) pa_nil))))))
    (pss_one (ps_ret (pv 3)))), ?_⟩
  obtain ⟨n145, _, e145⟩ := num_at N 145 (by decide)
  obtain ⟨n146, _, e146⟩ := num_at N 146 (by decide)
  obtain ⟨z0, hz0, ez0⟩ := at_mod n145 w1
  refine ⟨_, rfl, p, _, 0, _, rfl, rfl, hL, rfl, _, rfl, _, rfl, a, _, _, _, rfl, rfl, hS, e145 _ rfl, _, rfl, _, rfl, p, _, 0, _, rfl, rfl, hL, rfl, wd, _, rfl, .inr hwt, _, _, rfl, rfl, (by show (0 : Int) < ((L.winds.map V.str).length : Int); rw [List.length_map]; omega), wd, _, _, _, rfl, rfl, hwt, ez0, (by show 2 ≤ sizeLine; decide), fun q hq => ⟨(by show 1 ≤ sizeLine; decide), fun D hD => ?_⟩⟩
  have s1 := sm_up (o := .tup [.int 0, .str z0]) hq
  have DH : H D = none := s1.free hD
  have s2 := s1.trans (sm_up (o := .lst [.ref q]) hD)
  have qD : q ≠ D := ne_of_none upd_same hD
  obtain ⟨cnt, ec, hcnt⟩ := mod_nat (n146 : Int) 4 (by decide)
  refine ⟨_, rfl, _, rfl, _, _, rfl, rfl, a, _, _, _, rfl, rfl, s2.seq hS, e146 _ rfl, _, rfl, _, _, rfl, rfl, pgt rfl, (cnt : Int), congrArg (fun z => [V.int z]) ec, (by omega), (by omega),
    for_it walk_range (fun i σ H' => Same H H' ∧ (∃ u4 u5, σ = [some (.ref a), some (.int 145), some (.ref p), some (.ref D), u4, u5]) ∧ ∃ wt, LsAt K H' D (wt.map wrD) ∧ WtI L.winds wt i) ⟨s2, ⟨_, _, rfl⟩, [(0, z0)], ⟨[.ref q], upd_same, .cons (.tup (SqT.of (by rw [upd_ne qD]; exact upd_same)) (.cons (.int _) (.cons (.str _) .nil))) .nil, rfl⟩, wtI_one hz0⟩ (fun _ _ _ _ _ => trivial) ?_ ?_⟩
  · rintro i x σ Ha Hb hi ⟨t1, ⟨u4, u5, rfl⟩, wt, ⟨acc, hA, hda, hnl⟩, W⟩ ⟨rfl, rfl⟩
    rw [Int.toNat_natCast] at hi
    obtain ⟨x2, _, e2⟩ := num_at N (147 + i) (by omega)
    obtain ⟨x5, _, e5⟩ := num_at N (150 + i) (by omega)
    obtain ⟨z, hz, ez⟩ := at_mod x5 w1
    have hS4 := t1.seq hS
    have hL4 := t1.seq hL
    have hw4 := sm_tup t1 hwt
    have wl := W.len
    refine ⟨_, rfl, p, _, 0, _, rfl, rfl, hL4, rfl, _, rfl, _, rfl, _, _, rfl, rfl, _, rfl, _, _, rfl, rfl, a, _, _, _, rfl, rfl, hS4, e5 _ (by omega), _, rfl, _, rfl, p, _, 0, _, rfl, rfl, hL4, rfl, wd, _, rfl, .inr hw4, _, _, rfl, rfl, (by show (0 : Int) < ((L.winds.map V.str).length : Int); rw [List.length_map]; omega), wd, _, _, _, rfl, rfl, hw4, ez, ?_⟩
    have hr1 : wt[i]? = some (wt[i]'(by omega)) := List.getElem?_eq_getElem _
    obtain ⟨y, hy1, hy2⟩ := dpa_at hda (i := i) (d := wrD (wt[i]'(by omega))) (by rw [List.getElem?_map, hr1]; rfl)
    obtain ⟨b, y1, y2, rfl, hb, hb1, hb2⟩ := dp_tup2 hy2
    obtain rfl := dp_int hb1
    refine ⟨_, rfl, .inl ⟨rfl, _, SqL.of hA⟩, _, rfl, _, rfl, D, acc, _, _, rfl, rfl, SqL.of hA, (by rw [Int.zero_add]; exact atI_nat hy1), b, _, 0, _, rfl, rfl, hb, rfl, _, _, rfl, rfl, _, rfl, _, rfl, _, _, rfl, rfl, _, rfl, _, _, rfl, rfl, a, _, _, _, rfl, rfl, hS4, e2 _ (by omega), _, rfl, _, _, rfl, rfl, pgt rfl, _, _, rfl, rfl, _, rfl, (by show 2 ≤ sizeLine; decide), fun q2 hq2 => ?_⟩
    have s3 := sm_up (o := .tup [.int ((wt[i]'(by omega)).1 + 1 + (x2 : Int) % 12), .str z]) hq2
    refine ⟨D, acc, _, rfl, rfl, s3 _ _ hA, ?_, ?_⟩
    · rw [dpa_len hda, List.length_map]
      exact small1000 (by omega)
    · refine ⟨sm_mut (t1.trans s3) DH, ⟨_, _, rfl⟩, wt ++ [((wt[i]'(by omega)).1 + 1 + (x2 : Int) % 12, z)], ?_, wtI_more W hr1 (by omega) (by omega) hz⟩
      rw [List.map_append]
      exact lsAt_app (s3 _ _ hA) (dpa_sm s3 _ _ hda) hnl (.tup (SqT.of upd_same) (.cons (.int _) (.cons (.str _) .nil))) (nl_wr _)
  · rintro σ Ha ⟨t1, ⟨u4, u5, rfl⟩, wt, h2, W⟩
    rw [Int.toNat_natCast] at W
    exact ⟨_, rfl, k _ Ha wt t1 (lsAt_dp h2) (wtI_ok W (by omega)) W.mem⟩
/-! ### the law's land -/
def spLawMade (K : PySem.W.Frag) : Sp := fun vs H Q _ => ∃ (p : Addr) (L : LandD), vs = [.ref p] ∧ PartsAt K H p L ∧ PartsOk L ∧ ∀ q H', Same H H' → LandAt K H' q L → Q (.ref q) H'
theorem scLawMade : FnScope ["_law_parts_here"] ["_law_parts_here"] (defScope sLawMade) := ⟨rfl, rfl, rfl, by decide +kernel, rfl, by decide +kernel, by decide +kernel⟩
theorem ok_law_made (T : Txt K mg) : Has P w K mg base 6 "_law_made" ["_law_parts_here"] (spLawMade K) := by
  obtain ⟨fd, ⟨mv, hb⟩, F⟩ := ok_init (P := P) (w := w) (base := base) T
  refine has_of T.dLawMade T.gLawMade scLawMade (fun vs H Q E h => by obtain ⟨p, L, rfl, _⟩ := h; rfl) (fun _ _ _ _ _ _ us hl => match us, hl with | [_], _ => rfl) fun cdv A outer s H vs Q E hr h => ?_
  obtain ⟨p, L, rfl, hP, ok, k⟩ := h
  obtain ⟨wd, pl, l, pa, hL, hw, hpl, hl, hpa⟩ := id hP
  refine ⟨_, pss_one (ps_ret (pe_makeK0 T.mkL F hr (by rfl) T.gLand hb pass0 (pk_cons (pe_ix ix_list (pv 0) pe_int (fun _ _ => rfl)) (pk_cons (pe_ix ix_list (pv 0) pe_int (fun _ _ => rfl)) (pk_cons (pe_ix ix_list (pv 0) pe_int (fun _ _ => rfl)) (pk_cons (pe_ix ix_list (pv 0) pe_int (fun _ _ => rfl)) pk_nil)))))), ?_⟩
  refine ⟨_, rfl, p, _, 0, _, rfl, rfl, hL, rfl, _, rfl, p, _, 1, _, rfl, rfl, hL, rfl, _, rfl, p, _, 2, _, rfl, rfl, hL, rfl, _, rfl, p, _, 3, _, rfl, rfl, hL, rfl, rfl, rfl, fun x dx hx hdx hne => ?_⟩
  have s1 : Same H (upd (upd H dx (.own x)) x (.ins (CL K) dx [])) := sm_mut (sm_up hdx) hx
  exact ⟨H, x, dx, L, wd, pl, l, pa, rfl, s1, hx, upd_same, hw, hpl, hl, hpa, ok.ok, ok.nm, fun H' s2 hl' => ⟨rfl, k x H' s2 hl'⟩⟩
end
section
variable {P : Program} {w : World} {K : PySem.W.Frag} {mg : Str → Option Value} {base : Heap}
/-! ### some places -/
def spLawSome (K : PySem.W.Frag) : Sp := fun vs H Q _ => ∃ (a : Addr) (ns : List Nat) (p : Addr) (L : LandD) (b st : Nat), vs = [.ref a, .int (b : Int), .ref p, .int (st : Int)] ∧ SqL K H a (ns.map nV) ∧ Nums ns ∧ PartsAt K H p L ∧ L.places.length ≤ 7 ∧ b + 7 ≤ 170 ∧ 0 < st ∧
  ∀ v H' (ss : List Str), Same H H' → Dp K H' v (strsD ss) → (∀ z ∈ ss, z ∈ L.places) → ss.length ≤ 7 → Q v H'
abbrev nmLawSome : List Str := ["_law_numbers_here", "_law_at", "_law_parts_here", "_law_step", "_law_k"]
theorem scLawSome : FnScope nmLawSome ["_law_numbers_here", "_law_at", "_law_parts_here", "_law_step"] (defScope sLawSome) := ⟨rfl, rfl, rfl, by decide +kernel, rfl, by decide +kernel, by decide +kernel⟩
theorem ok_law_some (T : Txt K mg) : Has P w K mg base 1 "_law_some" ["_law_numbers_here", "_law_at", "_law_parts_here", "_law_step"] (spLawSome K) := by
  refine has_of T.dLawSome T.gLawSome scLawSome (fun vs H Q E h => by obtain ⟨a, ns, p, L, b, st, rfl, _⟩ := h; rfl) (fun _ _ _ _ _ _ us hl => match us, hl with | [_, _, _, _], _ => rfl) fun cdv A outer s H vs Q E hr h => ?_
  obtain ⟨a, ns, p, L, b, st, rfl, hS, N, hP, p7, b7, s0, k⟩ := h
  obtain ⟨wd, pl, l, pa, hL, hw, hpl, _⟩ := id hP
  refine ⟨_, pss_one (ps_ret (pe_lc (own := [("_law_k", 4)]) (g := gName 4) (by rfl) scLawSome.nd (pi_range1 (by rfl) T.fRange (pa_cons (pe_callB call_len_seq (by rfl) T.fLen PySem.boot_len (pa_cons (pe_ix ix_list (pv 2) pe_int (fun _ _ => rfl)) pa_nil)) pa_nil)) (blkOk_by (N := nmLawSome) (sc := defScope sLawSome) (by decide +kernel))
    (fun _ _ _ _ _ => pg_name (i := 4) scLawSome.nd rfl (Or.inl rfl)) (fun _ _ _ _ _ => pts_one (pt_cmpR op_eq (pe_op op_mod (pe_iC (pe_ix (ixL_ K) (pv 0) (pe_op op_add (pv 1) (pv 4)) (fun _ _ => rfl)) T.fInt) (pv 3)) pe_int (nomark _)))
    (fun _ _ _ _ _ => pe_ix (ixT_ K) (pe_ix (ixL_ K) (pv 2) pe_int (fun _ _ => rfl)) (pv 4) (fun _ _ => rfl)))), ?_⟩
  refine ⟨_, rfl, p, _, 1, _, rfl, rfl, hL, rfl, pl, _, rfl, .inr hpl, ((L.places.map V.str).length : Int), rfl, (by omega), (by rw [List.length_map]; omega),
    fun D hD => lc_it walk_range (fun i H' => Same H H' ∧ ∃ ss : List Str, LsAt K H' D (ss.map PyData.str) ∧ ss.length ≤ i ∧ ∀ z ∈ ss, z ∈ L.places) ⟨sm_up hD, [], ⟨[], upd_same, .nil, rfl⟩, Nat.le_refl _, fun z h => nomatch h⟩ (fun _ _ _ _ => trivial) ?_ ?_⟩
  · rintro i x H1 H2 hi ⟨t1, ss, ⟨acc, h1, h2, h3⟩, h4, h5⟩ ⟨rfl, rfl⟩
    rw [Int.toNat_natCast, List.length_map] at hi
    obtain ⟨n, _, en⟩ := num_at N (b + i) (by omega)
    refine ⟨rfl, _, rfl, _, rfl, _, rfl, _, _, rfl, rfl, a, _, _, _, rfl, rfl, t1.seq hS, en _ (by omega), _, rfl, _, rfl, _, _, rfl, rfl, (by show (0 : Int) < (st : Int); omega), rfl, _, rfl, ?_⟩
    refine ite2 (fun _ => ?_) fun _ => ?_
    · have hz : L.places[i]? = some (L.places[i]'hi) := List.getElem?_eq_getElem _
      refine ⟨_, rfl, p, _, 1, _, rfl, rfl, t1.seq hL, rfl, _, rfl, pl, _, _, .str (L.places[i]'hi), rfl, rfl, sm_tup t1 hpl, ?_, acc, h1, ?_, sm_mut t1 hD, ss ++ [L.places[i]'hi], ?_, ?_, fun z hz => ?_⟩
      · rw [Int.zero_add]
        refine atI_nat ?_
        rw [List.getElem?_map, hz]
        rfl
      · rw [dpa_len h2, List.length_map]
        exact small1000 (by omega)
      · rw [List.map_append]
        exact lsAt_app h1 h2 h3 (.str _) rfl
      · rw [List.length_append]
        exact Nat.add_le_add_right h4 1
      · rcases List.mem_append.mp hz with hz | hz
        · exact h5 z hz
        · rw [List.mem_singleton.mp hz]
          exact List.getElem_mem _
    · exact ⟨t1, ss, ⟨acc, h1, h2, h3⟩, Nat.le_succ_of_le h4, h5⟩
  · rintro H1 ⟨t1, ss, h1, h2, h3⟩
    rw [Int.toNat_natCast, List.length_map] at h2
    exact k _ H1 ss t1 (lsAt_dp h1) h3 (by omega)
/-! ### open links -/
def opL (links : List Lk) : List (Str × Str) := (links.filter opn).map fun l => (l.one, l.oth)
theorem opL_snoc (ls : List Lk) (l : Lk) : opL (ls ++ [l]) = opL ls ++ (if opn l = true then [(l.one, l.oth)] else []) := by
  unfold opL
  rw [List.filter_append, List.map_append]
  by_cases h : opn l = true
  · simp [h]
  · simp [h]
theorem opL_mem {links : List Lk} {x y : Str} : (x, y) ∈ opL links ↔ Edge links x y := by
  unfold opL Edge
  constructor
  · intro h
    obtain ⟨l, h1, h2⟩ := List.mem_map.mp h
    obtain ⟨h3, h4⟩ := List.mem_filter.mp h1
    injection h2 with e1 e2
    exact ⟨l, h3, h4, e1, e2⟩
  · rintro ⟨l, h1, h2, h3, h4⟩
    exact List.mem_map.mpr ⟨l, List.mem_filter.mpr ⟨h1, h2⟩, by rw [h3, h4]⟩
def spLawOpen (K : PySem.W.Frag) : Sp := fun vs H Q _ => ∃ (p : Addr) (L : LandD), vs = [.ref p] ∧ PartsAt K H p L ∧ L.links.length ≤ 900 ∧ (∀ l ∈ L.links, l.ts.length ≤ 900) ∧ ∀ o H', H o = none → Same H H' → LsAt K H' o ((opL L.links).map prS) → Q (.ref o) H'
abbrev nmLawOpen : List Str := ["_law_parts_here", "_law_found", "_law_name", "_law_one", "_law_other", "_law_times", "_law_pair"]
theorem scLawOpen : FnScope nmLawOpen ["_law_parts_here"] (defScope sLawOpen) := ⟨rfl, rfl, rfl, by decide +kernel, rfl, by decide +kernel, by decide +kernel⟩
theorem ok_law_open (T : Txt K mg) : Has P w K mg base 1 "_law_open" ["_law_parts_here"] (spLawOpen K) := by
  refine has_of T.dLawOpen T.gLawOpen scLawOpen (fun vs H Q E h => by obtain ⟨p, L, rfl, _⟩ := h; rfl) (fun _ _ _ _ _ _ us hl => match us, hl with | [_], _ => rfl) fun cdv A outer s H vs Q E hr h => ?_
  obtain ⟨p, L, rfl, hP, lz, tz, k⟩ := h
  obtain ⟨wd, pl, la, pa, hL, hw, hpl, hl, _⟩ := id hP
  obtain ⟨la', xs, el, hS, hd⟩ := dp_tup hl
  cases el
  have llen : xs.length = L.links.length := by rw [dpa_len hd, List.length_map]
  refine ⟨_, pss_cons (ps_set (i := 1) scLawOpen.nd rfl (.inl rfl) (pe_lst pa_nil))
    (pss_cons (ps_for PassesOwn.never rfl (pi_tup (pe_ix ix_list (pv 0) pe_int (fun _ _ => rfl))) (pg_tup rfl (pgs_cons (pg_name (i := 2) scLawOpen.nd rfl (.inl rfl)) (pgs_cons (pg_name (i := 3) scLawOpen.nd rfl (.inl rfl)) (pgs_cons (pg_name (i := 4) scLawOpen.nd rfl (.inl rfl)) (pgs_cons (pg_name (i := 5) scLawOpen.nd rfl (.inl rfl)) pgs_nil)))))
      (pss_one (ps_if (pt_val (pe_callB (cr_any rfl) (by rfl) T.fAny (by decide +kernel) (pa_cons (pe_lc (own := [("_law_pair", 6)]) (g := gName 6) (by rfl) scLawOpen.nd (pi_tup (pv 5)) (blkOk_by (N := nmLawOpen) (sc := defScope sLawOpen) (by decide +kernel))
          (fun _ _ _ _ _ => pg_name (i := 6) scLawOpen.nd rfl (Or.inl rfl)) (fun _ _ _ _ _ => pts_nil) (fun _ _ _ _ _ => pe_cmp (pc_notN (pv 6)) rfl)) pa_nil)))
        (pss_one (ps_expr (pe_bm PySem.F.plainAttrs_list PySem.F.slot_list_append PySem.F.type_list_append mt_append (pv 1) (pa_cons (pe_tup (pa_cons (pv 3) (pa_cons (pv 4) pa_nil))) pa_nil)))) pss_nil)))
    (pss_one (ps_ret (pv 1)))), ?_⟩
  refine ⟨Nat.zero_le _, fun D hD => ?_⟩
  have s0 := sm_up (o := .lst []) hD
  refine ⟨_, rfl, p, _, 2, _, rfl, rfl, s0.seq hL, rfl, la, rfl, ⟨_, sm_tup s0 hS⟩, for_tup (K := K) (a := la) (xs := xs) (fun i σ H' => Same H H' ∧ (∃ u2 u3 u4 u5, σ = [some (.ref p), some (.ref D), u2, u3, u4, u5, none]) ∧ LsAt K H' D ((opL (L.links.take i)).map prS)) ⟨s0, ⟨_, _, _, _, rfl⟩, [], upd_same, .nil, rfl⟩ (fun i σ H' _ q => sm_tup q.1 hS) ?_ ?_⟩
  · rintro i x σ Ha hx ⟨t1, ⟨u2, u3, u4, u5, rfl⟩, t2⟩
    obtain ⟨d, g1, g2⟩ := dpa_get hd hx
    obtain ⟨l, g3, rfl⟩ := get_map g1
    have tl0 := tz l (List.mem_of_getElem? g3)
    have hi : i < L.links.length := (List.getElem?_eq_some_iff.mp g3).1
    obtain ⟨c, ys, rfl, hc, hys⟩ := dp_tup (dp_sm t1 _ _ g2)
    obtain ⟨y1, y2, y3, y4, rfl, _, hy2, hy3, hy4⟩ := dpa_4 hys
    obtain rfl := dp_str hy2
    obtain rfl := dp_str hy3
    obtain ⟨ta, ts, rfl, hts, htd⟩ := dp_tup hy4
    have tl : ts.length = l.ts.length := by rw [dpa_len htd, List.length_map]
    refine ⟨c, _, rfl, hc, rfl, _, _, rfl, _, _, rfl, _, _, rfl, _, _, rfl, rfl, ?_⟩
    refine ⟨_, rfl, ta, rfl, ⟨_, hts⟩, fun D2 hD2 => lc_data (K := K) walk_tup hD2 (fun j => (l.ts.take j).map fun q => PyData.bool q.isSome) rfl (fun j hj => ?_) (fun H' e => sm_tup e hts) ?_ ?_⟩
    · rw [List.length_map, List.length_take]
      exact small1000 (by omega)
    · rintro j v Hb Hc N hj e1 ⟨rfl, hv⟩ kY kN
      obtain ⟨d, b1, b2⟩ := dpa_get htd hv
      obtain ⟨q, b3, rfl⟩ := get_map b1
      refine ⟨rfl, _, rfl, ?_⟩
      refine kY _ _ (.bool q.isSome) (Same.refl _) ?_ rfl ?_
      · cases q with
        | none =>
          obtain rfl := dp_non b2
          exact .bl _
        | some q =>
          obtain ⟨lo, hi'⟩ := q
          obtain ⟨z', x1, x2, rfl, _⟩ := dp_tup2 b2
          exact .bl _
      · rw [take_snoc b3, List.map_append]
        rfl
    · intro Hb e1 hls
      obtain ⟨acc, hA, hdp, _⟩ := hls
      rw [tl, List.take_length] at hdp
      have ea : acc = (l.ts.map Option.isSome).map V.bl := dpa_bools (by rw [List.map_map]; exact hdp)
      subst ea
      have eo : (l.ts.map Option.isSome).any id = opn l := by
        unfold opn
        rw [List.any_map]
        rfl
      obtain ⟨ac, h1, h2, h3⟩ := lsAt_sm e1 t2
      refine ⟨D2, l.ts.map Option.isSome, rfl, SqL.of hA, opn l, by rw [eo], ?_⟩
      rw [take_snoc g3, opL_snoc]
      by_cases ho : opn l = true
      · rw [ho]
        refine iteT ⟨_, rfl, .inl ⟨rfl, _, SqL.of h1⟩, _, rfl, _, rfl, (by show 2 ≤ sizeLine; decide), fun q hq => ?_⟩
        have e2 := sm_up (o := .tup [.str l.one, .str l.oth]) hq
        refine ⟨D, ac, _, rfl, rfl, e2 _ _ h1, ?_, sm_mut ((t1.trans e1).trans e2) hD, ⟨_, _, _, _, rfl⟩, ?_⟩
        · rw [dpa_len h2, List.length_map]
          unfold opL
          rw [List.length_map]
          refine Nat.lt_of_le_of_lt (List.length_filter_le _ _) (small1000 ?_)
          rw [List.length_take]
          omega
        · rw [List.map_append]
          exact lsAt_app (e2 _ _ h1) (dpa_sm e2 _ _ h2) h3 (.tup (SqT.of upd_same) (.cons (.str _) (.cons (.str _) .nil))) (nl_prS _)
      · have ho' : opn l = false := by simpa using ho
        rw [ho']
        refine iteF ⟨t1.trans e1, ⟨_, _, _, _, rfl⟩, ac, h1, ?_, ?_⟩
        · simpa using h2
        · simpa using h3
  · rintro σ Ha ⟨t1, ⟨u2, u3, u4, u5, rfl⟩, t2⟩
    rw [llen, List.take_length] at t2
    exact ⟨_, rfl, k D Ha hD t1 t2⟩
/-! ### a fourth wind -/
def spLawFourth (K : PySem.W.Frag) : Sp := fun vs H Q _ => ∃ (p : Addr) (L : LandD) (a : Addr) (ns : List Nat), vs = [.ref p, .ref a, .int 161] ∧ PartsAt K H p L ∧ PartsOk L ∧ L.winds.length = 3 ∧ (∀ z ∈ L.winds, 2 ≤ z.cps.size) ∧ SqL K H a (ns.map nV) ∧ Nums ns ∧ ∀ q H' L', Same H H' → PartsAt K H' q L' → PartsOk L' → Q (.ref q) H'
abbrev nmLawFourth : List Str := ["_law_parts_here", "_law_numbers_here", "_law_at", "_law_links", "_law_k", "_law_name", "_law_one", "_law_other", "_law_times", "_law_pair", "_law_least"]
theorem scLawFourth : FnScope nmLawFourth ["_law_parts_here", "_law_numbers_here", "_law_at"] (defScope sLawFourth) := ⟨rfl, rfl, rfl, by decide +kernel, rfl, by decide +kernel, by decide +kernel⟩
abbrev wS : Str := "w"
theorem w_ok : NameOk wS := ⟨by decide +kernel, by decide +kernel, ⟨119, by decide +kernel, by decide +kernel⟩, fun i c h => by
  match i with
  | 0 =>
    have e : (Str.ofString "w").cps[0]? = some 119 := by decide +kernel
    rw [e] at h
    cases h
    decide +kernel
  | i + 1 =>
    have e : wS.cps.size = 1 := by decide +kernel
    rw [Array.getElem?_eq_none (by omega)] at h
    cases h⟩
theorem ok_law_fourth (T : Txt K mg) : Has P w K mg base 1 "_law_fourth" ["_law_parts_here", "_law_numbers_here", "_law_at"] (spLawFourth K) := by
  refine has_of T.dLawFourth T.gLawFourth scLawFourth (fun vs H Q E h => by obtain ⟨p, L, a, ns, rfl, _⟩ := h; rfl) (fun _ _ _ _ _ _ us hl => match us, hl with | [_, _, _], _ => rfl) fun cdv A outer s H vs Q E hr h => ?_
  obtain ⟨p, L, a, ns, rfl, hP, ok, w3, two, hS, N, k⟩ := h
  obtain ⟨wd, pl, la, pa, hL, hw, hpl, hl, hpa⟩ := id hP
  have hwt : SqT K H wd (L.winds.map V.str) := tupN_sq hw
  obtain ⟨la', xs, el, hX, hd⟩ := dp_tup hl
  cases el
  have llen : xs.length = L.links.length := by rw [dpa_len hd, List.length_map]
  have l10 := ok.l10
  refine ⟨_, pss_cons (ps_set (i := 3) scLawFourth.nd rfl (.inl rfl) (pe_lst pa_nil))
    (pss_cons (ps_for PassesOwn.never rfl (pi_range1 (by rfl) T.fRange (pa_cons (pe_callB call_len_seq (by rfl) T.fLen PySem.boot_len (pa_cons (pe_ix ix_list (pv 0) pe_int (fun _ _ => rfl)) pa_nil)) pa_nil)) (pg_name (i := 4) scLawFourth.nd rfl (.inl rfl))
    (pss_cons (ps_asg (pe_ix ix_tup (pe_ix ix_list (pv 0) pe_int (fun _ _ => rfl)) (pv 4) (fun _ _ => rfl)) (pg_tup rfl (pgs_cons (pg_name (i := 5) scLawFourth.nd rfl (.inl rfl)) (pgs_cons (pg_name (i := 6) scLawFourth.nd rfl (.inl rfl)) (pgs_cons (pg_name (i := 7) scLawFourth.nd rfl (.inl rfl)) (pgs_cons (pg_name (i := 8) scLawFourth.nd rfl (.inl rfl)) pgs_nil))))))
    (pss_cons (ps_set (i := 9) scLawFourth.nd rfl (.inl rfl) pe_non)
    (C8.pss_cut (ps_if (pt_cmpR op_eq (pv 4) (pe_op op_mod (pe_iC (pe_ix ix_list (pv 1) (pv 2) (fun _ _ => rfl)) T.fInt) (pe_callB call_len_seq (by rfl) T.fLen PySem.boot_len (pa_cons (pe_ix ix_list (pv 0) pe_int (fun _ _ => rfl)) pa_nil))) (nomark _)) (pss_cons (ps_set (i := 10) scLawFourth.nd rfl (.inl rfl) (pe_op op_add pe_int (pe_op op_mod (pe_iC (pe_ix ix_list (pv 1) (pe_op op_add (pv 2) pe_int) (fun _ _ => rfl)) T.fInt) pe_int)))
    (pss_cons (ps_set (i := 8) scLawFourth.nd rfl (.inl rfl) (pe_tup (pa_cons pe_non (pa_cons pe_non (pa_cons pe_non pa_nil)))))
    (pss_one (ps_set (i := 9) scLawFourth.nd rfl (.inl rfl) (pe_tup (pa_cons (pv 10) (pa_cons (pe_op op_add (pv 10) (pe_op op_mod (pe_iC (pe_ix ix_list (pv 1) (pe_op op_add (pv 2) pe_int) (fun _ _ => rfl)) T.fInt) pe_int)) pa_nil))))))) pss_nil)
    (pss_one (ps_expr (pe_bm PySem.F.plainAttrs_list PySem.F.slot_list_append PySem.F.type_list_append mt_append (pv 3) (pa_cons (pe_tup (pa_cons (pv 5) (pa_cons (pv 6) (pa_cons (pv 7) (pa_cons (pe_op opCatNw (pv 8) (pe_tup (pa_cons (pv 9) pa_nil))) pa_nil))))) pa_nil))))))))
    (pss_one (ps_ret (pe_lst (pa_cons (pe_op opCatNw (pe_ix ix_list (pv 0) pe_int (fun _ _ => rfl)) (pe_tup (pa_cons pe_str pa_nil))) (pa_cons (pe_ix ix_list (pv 0) pe_int (fun _ _ => rfl)) (pa_cons (pe_callTy cTupNw (by rfl) T.fTuple (by decide +kernel) (pa_cons (pv 3) pa_nil)) (pa_cons (pe_ix ix_list (pv 0) pe_int (fun _ _ => rfl)) pa_nil)))))))), ?_⟩
  obtain ⟨n1, _, e1⟩ := num_at N 161 (by decide)
  obtain ⟨n2, _, e2⟩ := num_at N 162 (by decide)
  obtain ⟨n3, _, e3⟩ := num_at N 163 (by decide)
  refine ⟨Nat.zero_le _, fun D hD => ?_⟩
  have s0 := sm_up (o := .lst []) hD
  refine ⟨_, rfl, p, _, 2, _, rfl, rfl, s0.seq hL, rfl, la, _, rfl, .inr (sm_tup s0 hX), (xs.length : Int), rfl, (by omega), (by omega),
    for_it walk_range (fun i σ H' => Same H H' ∧ (∃ u4 u5 u6 u7 u8 u9 u10, σ = [some (.ref p), some (.ref a), some (.int 161), some (.ref D), u4, u5, u6, u7, u8, u9, u10]) ∧ ∃ links : List Lk, LsAt K H' D (links.map lkD) ∧ links.length = i ∧ (∀ l ∈ links, LkOk (L.winds ++ [wS]) L.places l) ∧ links.map (·.nm) = (L.links.take i).map (·.nm))
    ⟨s0, ⟨_, _, _, _, _, _, _, rfl⟩, [], ⟨[], upd_same, .nil, rfl⟩, rfl, (fun l h => nomatch h), rfl⟩ (fun _ _ _ _ _ => trivial) ?_ ?_⟩
  · rintro i x σ Ha Hb hi ⟨t1, ⟨u4, u5, u6, u7, u8, u9, u10, rfl⟩, links, t2, t3, t4, t5⟩ ⟨rfl, rfl⟩
    rw [Int.toNat_natCast, llen] at hi
    have g3 : L.links[i]? = some (L.links[i]'hi) := List.getElem?_eq_getElem _
    generalize L.links[i]'hi = l at g3
    have lk := ok.ok.lk l (List.mem_of_getElem? g3)
    have hL4 := t1.seq hL
    have hX4 := sm_tup t1 hX
    have hS4 := t1.seq hS
    obtain ⟨y, hy1, hy2⟩ := dpa_at hd (i := i) (d := lkD l) (by rw [List.getElem?_map, g3]; rfl)
    obtain ⟨c, ys, rfl, hc, hys⟩ := dp_tup (dp_sm t1 _ _ hy2)
    obtain ⟨y1, y2, y3, y4, rfl, hz1, hz2, hz3, hz4⟩ := dpa_4 hys
    obtain rfl := dp_str hz1
    obtain rfl := dp_str hz2
    obtain rfl := dp_str hz3
    obtain ⟨ta, ts, rfl, hts, htd⟩ := dp_tup hz4
    refine ⟨_, rfl, p, _, 2, _, rfl, rfl, hL4, rfl, _, rfl, la, xs, _, _, rfl, rfl, hX4, (by rw [Int.zero_add]; exact atI_nat hy1), c, _, rfl, hc, rfl, _, _, rfl, _, _, rfl, _, _, rfl, _, _, rfl, rfl, ?_⟩
    refine ⟨fun σ' H' => Same Hb H' ∧ ∃ (T8 : Addr) (zs : List V) (ts' : List Pr) (v9 : V) (pr : Pr) (u : Option V), σ' = [some (.ref p), some (.ref a), some (.int 161), some (.ref D), some (.int (0 + (i : Int))), some (.str l.nm), some (.str l.one), some (.str l.oth), some (.ref T8), some v9, u] ∧ SqT K H' T8 zs ∧ DpAll K H' zs (ts'.map prD) ∧ ts'.length = 3 ∧ Dp K H' v9 (prD pr) ∧
      (∀ lo hi, some (lo, hi) ∈ ts' ++ [pr] → 1 ≤ lo ∧ lo ≤ hi ∧ hi ≤ 1000), ?_, ?_⟩
    · refine ⟨_, rfl, _, rfl, _, rfl, a, _, _, _, rfl, rfl, hS4, e1 _ rfl, _, rfl, _, rfl, p, _, 2, _, rfl, rfl, hL4, rfl, la, _, rfl, .inr hX4, _, _, rfl, rfl, (by show (0 : Int) < (xs.length : Int); omega), rfl, _, rfl, ?_⟩
      refine ite2 (fun _ => ?_) fun _ => ?_
      · refine ⟨_, rfl, _, rfl, _, _, rfl, rfl, a, _, _, _, rfl, rfl, hS4, e2 _ rfl, _, rfl, _, _, rfl, rfl, pgt rfl, _, _, rfl, rfl, (by show 3 ≤ sizeLine; decide), fun q1 hq1 => ?_⟩
        have f1 := sm_up (o := .tup [.non, .non, .non]) hq1
        refine ⟨_, rfl, _, rfl, _, rfl, _, rfl, _, _, rfl, rfl, a, _, _, _, rfl, rfl, f1.seq hS4, e3 _ rfl, _, rfl, _, _, rfl, rfl, pgt rfl, _, _, rfl, rfl, (by show 2 ≤ sizeLine; decide), fun q2 hq2 => ?_⟩
        have f2 := sm_up (o := .tup [.int (1 + (n2 : Int) % 9), .int (1 + (n2 : Int) % 9 + (n3 : Int) % 7)]) hq2
        refine ⟨f1.trans f2, q1, _, [none, none, none], .ref q2, some (1 + (n2 : Int) % 9, 1 + (n2 : Int) % 9 + (n3 : Int) % 7), _, rfl, sm_tup f2 (SqT.of upd_same), .cons .non (.cons .non (.cons .non .nil)), rfl, .tup (SqT.of upd_same) (.cons (.int _) (.cons (.int _) .nil)), fun lo hi h => ?_⟩
        rcases List.mem_append.mp h with h | h
        · simp at h
        · have e := Option.some.inj (List.mem_singleton.mp h)
          injection e with q1 q2
          subst q1 q2
          omega
      · refine ⟨Same.refl _, ta, ts, l.ts, .non, none, u10, rfl, hts, htd, by rw [lk.ts, w3], .non, fun lo hi h => ?_⟩
        rcases List.mem_append.mp h with h | h
        · exact lk.bd lo hi h
        · cases List.mem_singleton.mp h
    · rintro σ' H' ⟨t6, T8, zs, ts', v9, pr, u, rfl, hz8, hd8, l8, hd9, bd⟩
      have zl : zs.length = 3 := by rw [dpa_len hd8, List.length_map, l8]
      obtain ⟨acc, hA, hda, hnl⟩ := lsAt_sm t6 t2
      refine ⟨_, rfl, .inl ⟨rfl, _, SqL.of hA⟩, _, rfl, _, rfl, _, rfl, _, rfl, _, rfl, (by show 1 ≤ sizeLine; decide), fun q1 hq1 => ?_⟩
      have f1 := sm_up (o := .tup [v9]) hq1
      refine ⟨T8, q1, zs, [v9], rfl, rfl, sm_tup f1 hz8, SqT.of upd_same, (fun e => by rw [e] at zl; cases zl), (fun e => by cases e), Nat.le_of_lt (small1000 (by rw [List.length_append, zl]; show 3 + 1 ≤ 1000; decide)), fun tq He htq f2 htn => ⟨(by show 4 ≤ sizeLine; decide), fun lq hlq => ?_⟩⟩
      have f3 := sm_up (o := .tup [.str l.nm, .str l.one, .str l.oth, .ref tq]) hlq
      have f4 := (f1.trans f2).trans f3
      refine ⟨D, acc, _, rfl, rfl, f4 _ _ hA, ?_, sm_mut ((t1.trans t6).trans f4) hD, ⟨_, _, _, _, _, _, _, rfl⟩, links ++ [⟨l.nm, l.one, l.oth, ts' ++ [pr]⟩], ?_, by rw [List.length_append, t3]; rfl, fun l' hl' => ?_, ?_⟩
      · rw [dpa_len hda, List.length_map]
        exact small1000 (by omega)
      · rw [List.map_append]
        refine lsAt_app (f4 _ _ hA) (dpa_sm f4 _ _ hda) hnl (.tup (SqT.of upd_same) (.cons (.str _) (.cons (.str _) (.cons (.str _) (.cons (.tup (sm_tup f3 (tupN_sq htn)) ?_) .nil))))) (nl_lk ⟨l.nm, l.one, l.oth, ts' ++ [pr]⟩)
        rw [List.map_append]
        exact dpa_app (dpa_sm f4 _ _ hd8) (dpa_one (dp_sm f4 _ _ hd9))
      · rcases List.mem_append.mp hl' with h | h
        · exact t4 l' h
        · rw [List.mem_singleton.mp h]
          exact ⟨lk.one, lk.oth, lk.ne, by show (ts' ++ [pr]).length = (L.winds ++ [wS]).length; rw [List.length_append, List.length_append, l8, w3]; rfl, bd⟩
      · rw [List.map_append, t5, take_snoc g3, List.map_append]
        rfl
  · rintro σ Ha ⟨t1, ⟨u4, u5, u6, u7, u8, u9, u10, rfl⟩, links, t2, t3, t4, t5⟩
    rw [Int.toNat_natCast, llen] at t3 t5
    rw [List.take_length] at t5
    obtain ⟨acc, hA, hda, _⟩ := t2
    refine ⟨_, rfl, p, _, 0, _, rfl, rfl, t1.seq hL, rfl, (by show 1 ≤ sizeLine; decide), fun q1 hq1 => ?_⟩
    have f1 := sm_up (o := .tup [.str "w"]) hq1
    refine ⟨wd, q1, L.winds.map V.str, [.str "w"], rfl, rfl, sm_tup (t1.trans f1) hwt, SqT.of upd_same, (fun e => by have := congrArg List.length e; rw [List.length_map, w3] at this; cases this), (fun e => by cases e), Nat.le_of_lt (small1000 (by rw [List.length_append, List.length_map, w3]; show 3 + 1 ≤ 1000; decide)), fun wq Hb hwq f2 htw => ?_⟩
    have f3 := (t1.trans f1).trans f2
    refine ⟨_, rfl, p, _, 1, _, rfl, rfl, f3.seq hL, rfl, _, rfl, D, acc, rfl, SqL.of ((f1.trans f2) _ _ hA), fun lq Hc hlq f4 htl => ⟨_, rfl, p, _, 3, _, rfl, rfl, (f3.trans f4).seq hL, rfl, (by show 4 ≤ sizeLine; decide), fun q hq => ?_⟩⟩
    have f5 := sm_up (o := .lst [.ref wq, .ref pl, .ref lq, .ref pa]) hq
    have f6 := (f3.trans f4).trans f5
    have ew : (L.winds ++ [wS]).map V.str = L.winds.map V.str ++ [.str "w"] := List.map_append
    refine k q _ ⟨L.winds ++ [wS], L.places, links, L.paths⟩ f6 ⟨wq, pl, lq, pa, SqL.of upd_same, ?_, sm_tup f6 hpl, .tup (tupN_sq (tupN_sm f5 htl)) (dpa_sm (((f1.trans f2).trans f4).trans f5) _ _ hda), dp_sm f6 _ _ hpa⟩ ⟨⟨?_, ?_, ?_, ok.ok.pn1, ok.ok.pn, ok.ok.pnd, ?_, t4⟩, ⟨fun z hz => ?_, ok.nm.p, fun l hl => ?_, ?_, ok.nm.pa⟩, ok.p2, ok.p7, ?_⟩
    · rw [ew]
      exact tupN_sm (f4.trans f5) htw
    · show 1 ≤ (L.winds ++ [wS]).length
      rw [List.length_append]
      show 1 ≤ L.winds.length + 1
      omega
    · show (L.winds ++ [wS]).length ≤ 4
      rw [List.length_append]
      show L.winds.length + 1 ≤ 4
      omega
    · refine List.nodup_append.mpr ⟨ok.ok.wnd, List.nodup_cons.mpr ⟨List.not_mem_nil, List.nodup_nil⟩, fun x hx y hy e => ?_⟩
      rw [List.mem_singleton.mp hy] at e
      have := two x hx
      rw [e] at this
      exact absurd this (by decide +kernel)
    · show links.length ≤ 60
      omega
    · rcases List.mem_append.mp hz with hz | hz
      · exact ok.nm.w z hz
      · rw [List.mem_singleton.mp hz]
        exact w_ok
    · have : l.nm ∈ L.links.map (·.nm) := t5 ▸ List.mem_map.mpr ⟨l, hl, rfl⟩
      obtain ⟨l', h1, h2⟩ := List.mem_map.mp this
      rw [← h2]
      exact ok.nm.l l' h1
    · show (links.map (·.nm)).Nodup
      rw [t5]
      exact ok.nm.ln
    · show links.length ≤ 10
      omega
end
/-! ### ways, found breadth first -/
/-- come to by fewer than t links -/
def Rb (links : List Lk) (starts B : List Str) : Nat → Str → Prop
  | 0, _ => False
  | t + 1, z => (z ∈ starts ∧ z ∉ B) ∨ ∃ y, Rb links starts B t y ∧ Edge links y z ∧ z ∉ B
structure Way (links : List Lk) (places starts B : List Str) (w : List Str) : Prop where
  ne : 1 ≤ w.length
  st : ∀ z, w[0]? = some z → z ∈ starts
  nb : ∀ z ∈ w, z ∉ B
  pl : ∀ z ∈ w, z ∈ places
  nd : w.Nodup
  ed : ∀ (k : Nat) x y, w[k]? = some x → w[k + 1]? = some y → Edge links x y
/-- the last place of each way -/
def lastOf (w : List Str) : Option Str := w[w.length - 1]?
def endsOf (ws : List (List Str)) : List Str := ws.filterMap lastOf
section
variable {links : List Lk} {places starts B : List Str}
theorem rb_mono : ∀ {t : Nat} {z : Str}, Rb links starts B t z → Rb links starts B (t + 1) z
  | 0, _, h => h.elim
  | t + 1, z, h => by
    rcases h with h | ⟨y, h1, h2, h3⟩
    · exact .inl h
    · exact .inr ⟨y, rb_mono h1, h2, h3⟩
theorem rb_le {s t : Nat} (h : s ≤ t) {z : Str} (hz : Rb links starts B s z) : Rb links starts B t z := by
  induction h with
  | refl => exact hz
  | step _ ih => exact rb_mono ih
theorem way_rb {w : List Str} (W : Way links places starts B w) : ∀ (k : Nat) z, w[k]? = some z → Rb links starts B (k + 1) z
  | 0, z, h => .inl ⟨W.st z h, W.nb z (List.mem_of_getElem? h)⟩
  | k + 1, z, h => by
    have hk : k < w.length := by
      have := (List.getElem?_eq_some_iff.mp h).1
      omega
    have hx : w[k]? = some (w[k]'hk) := List.getElem?_eq_getElem _
    exact .inr ⟨_, way_rb W k _ hx, W.ed k _ _ hx h, W.nb z (List.mem_of_getElem? h)⟩
theorem way_in {w : List Str} {t : Nat} (W : Way links places starts B w) (hl : w.length = t + 1) {z : Str} (hz : z ∈ w) : Rb links starts B (t + 1) z := by
  obtain ⟨k, hk, e⟩ := List.mem_iff_getElem.mp hz
  have q := way_rb W k z (by rw [← e]; exact List.getElem?_eq_getElem _)
  exact rb_le (by omega) q
theorem last_some {w : List Str} (h : 1 ≤ w.length) : ∃ z, lastOf w = some z ∧ z ∈ w := by
  have e : w[w.length - 1]? = some (w[w.length - 1]'(by omega)) := List.getElem?_eq_getElem _
  exact ⟨_, e, List.getElem_mem _⟩
theorem mem_ends {ws : List (List Str)} {z : Str} : z ∈ endsOf ws ↔ ∃ w ∈ ws, lastOf w = some z := by
  unfold endsOf
  rw [List.mem_filterMap]
/-- what holds ahead of a turn -/
structure Bf (links : List Lk) (places starts goals B : List Str) (t : Nat) (ws : List (List Str)) : Prop where
  way : ∀ w ∈ ws, Way links places starts B w ∧ w.length = t + 1
  all : ∀ z, Rb links starts B (t + 1) z → ¬ Rb links starts B t z → z ∈ endsOf ws
  no : ∀ g ∈ goals, ¬ Rb links starts B t g
  few : ws.length ≤ 7
/-- what holds within a turn: Dn tells which candidates have been looked at -/
structure Bl (links : List Lk) (places starts B : List Str) (t : Nat) (ws lg : List (List Str)) (Dn : List Str → Str → Prop) : Prop where
  way : ∀ w ∈ lg, Way links places starts B w ∧ w.length = t + 2
  all : ∀ w ∈ ws, ∀ x y, Edge links x y → Dn w y → lastOf w = some x → y ∉ B → y ∉ endsOf ws → y ∉ w → y ∈ endsOf lg
  nd : (endsOf lg).Nodup
  len : (endsOf lg).length = lg.length
theorem bf_start (hp : ∀ z ∈ starts, z ∈ places) (h7 : starts.length ≤ 7) (goals : List Str) : Bf links places starts goals B 0 ((starts.filter fun z => decide (z ∉ B)).map fun z => [z]) := by
  refine ⟨fun w hw => ?_, fun z hz _ => ?_, fun g _ h => h, ?_⟩
  · obtain ⟨z, h1, rfl⟩ := List.mem_map.mp hw
    obtain ⟨h2, h3⟩ := List.mem_filter.mp h1
    have h3 : z ∉ B := of_decide_eq_true h3
    refine ⟨⟨Nat.le_refl _, fun y hy => ?_, fun y hy => ?_, fun y hy => ?_, by simp, fun k x y _ hy => by simp at hy⟩, rfl⟩
    · cases hy
      exact h2
    · rw [List.mem_singleton.mp hy]
      exact h3
    · rw [List.mem_singleton.mp hy]
      exact hp z h2
  · rcases hz with h | ⟨y, h, _⟩
    · exact mem_ends.mpr ⟨[z], List.mem_map.mpr ⟨z, List.mem_filter.mpr ⟨h.1, decide_eq_true h.2⟩, rfl⟩, rfl⟩
    · exact h.elim
  · rw [List.length_map]
    have := List.length_filter_le (fun z => decide (z ∉ B)) starts
    omega
theorem bl_start (t : Nat) (ws : List (List Str)) : Bl links places starts B t ws [] fun _ _ => False :=
  ⟨(fun w h => nomatch h), fun w _ x y _ h => h.elim, List.nodup_nil, rfl⟩
theorem bl_sub {t : Nat} {ws lg : List (List Str)} {D1 D2 : List Str → Str → Prop} (I : Bl links places starts B t ws lg D1) (h : ∀ w ∈ ws, ∀ x y, Edge links x y → D2 w y → lastOf w = some x → y ∉ B → y ∉ endsOf ws → y ∉ w → D1 w y ∨ y ∈ endsOf lg) : Bl links places starts B t ws lg D2 :=
  ⟨I.way, fun w hw x y he hd h1 h2 h3 h4 => (h w hw x y he hd h1 h2 h3 h4).elim (fun q => I.all w hw x y he q h1 h2 h3 h4) id, I.nd, I.len⟩
theorem ends_snoc {lg : List (List Str)} {w : List Str} {z : Str} (h : lastOf w = some z) : endsOf (lg ++ [w]) = endsOf lg ++ [z] := by
  unfold endsOf
  rw [List.filterMap_append]
  simp [h]
theorem last_snoc (w : List Str) (z : Str) : lastOf (w ++ [z]) = some z := by
  unfold lastOf
  rw [List.length_append, List.length_singleton, Nat.add_sub_cancel, List.getElem?_append_right (Nat.le_refl _), Nat.sub_self]
  rfl
theorem way_more {w : List Str} (W : Way links places starts B w) {x y : Str} (hx : lastOf w = some x) (he : Edge links x y) (hb : y ∉ B) (hp : y ∈ places) (hw : y ∉ w) : Way links places starts B (w ++ [y]) := by
  have ne := W.ne
  refine ⟨by rw [List.length_append]; omega, fun z hz => ?_, fun z hz => ?_, fun z hz => ?_, ?_, fun k a b ha hb' => ?_⟩
  · rw [List.getElem?_append_left (by omega)] at hz
    exact W.st z hz
  · rcases List.mem_append.mp hz with hz | hz
    · exact W.nb z hz
    · rw [List.mem_singleton.mp hz]
      exact hb
  · rcases List.mem_append.mp hz with hz | hz
    · exact W.pl z hz
    · rw [List.mem_singleton.mp hz]
      exact hp
  · refine List.nodup_append.mpr ⟨W.nd, List.nodup_cons.mpr ⟨List.not_mem_nil, List.nodup_nil⟩, fun a ha b hb e => ?_⟩
    rw [List.mem_singleton.mp hb] at e
    exact hw (e ▸ ha)
  · by_cases hk : k + 1 < w.length
    · rw [List.getElem?_append_left (by omega)] at ha
      rw [List.getElem?_append_left hk] at hb'
      exact W.ed k a b ha hb'
    · have hk2 : k + 1 < (w ++ [y]).length := (List.getElem?_eq_some_iff.mp hb').1
      rw [List.length_append] at hk2
      have hk3 : k + 1 < w.length + 1 := hk2
      have ek : k = w.length - 1 := by omega
      rw [List.getElem?_append_left (by omega), ek] at ha
      unfold lastOf at hx
      rw [hx] at ha
      cases ha
      rw [List.getElem?_append_right (by omega)] at hb'
      have e0 : k + 1 - w.length = 0 := by omega
      rw [e0] at hb'
      cases hb'
      exact he
theorem bl_push {t : Nat} {ws lg : List (List Str)} {D1 D2 : List Str → Str → Prop} (I : Bl links places starts B t ws lg D1) {w : List Str} (hw : w ∈ ws) (W : Way links places starts B w) (hl : w.length = t + 1) {x y : Str} (hx : lastOf w = some x) (he : Edge links x y) (hb : y ∉ B) (hp : y ∈ places)
    (hn : y ∉ endsOf lg) (hyw : y ∉ w) (h : ∀ v ∈ ws, ∀ z, D2 v z → D1 v z ∨ z = y) : Bl links places starts B t ws (lg ++ [w ++ [y]]) D2 := by
  have es := ends_snoc (lg := lg) (last_snoc w y)
  refine ⟨fun v hv => ?_, fun v hv a b hab hd h1 h2 h3 h4 => ?_, ?_, ?_⟩
  · rcases List.mem_append.mp hv with hv | hv
    · exact I.way v hv
    · rw [List.mem_singleton.mp hv]
      exact ⟨way_more W hx he hb hp hyw, by rw [List.length_append, hl]; rfl⟩
  · rw [es]
    rcases h v hv b hd with q | q
    · exact List.mem_append.mpr (.inl (I.all v hv a b hab q h1 h2 h3 h4))
    · exact List.mem_append.mpr (.inr (List.mem_singleton.mpr q))
  · rw [es]
    refine List.nodup_append.mpr ⟨I.nd, List.nodup_cons.mpr ⟨List.not_mem_nil, List.nodup_nil⟩, fun a ha b hb e => ?_⟩
    rw [List.mem_singleton.mp hb] at e
    exact hn (e ▸ ha)
  · rw [es, List.length_append, List.length_append, I.len]
    rfl
theorem bl_few {t : Nat} {ws lg : List (List Str)} {D : List Str → Str → Prop} (I : Bl links places starts B t ws lg D) (hp : places.length ≤ 7) : lg.length ≤ 7 := by
  have := nodup_len I.nd (m := places) fun z hz => by
    obtain ⟨w, h1, h2⟩ := mem_ends.mp hz
    exact (I.way w h1).1.pl z (List.mem_of_getElem? h2)
  rw [I.len] at this
  omega
theorem bf_next {goals : List Str} {t : Nat} {ws lg : List (List Str)} (I : Bf links places starts goals B t ws) (J : Bl links places starts B t ws lg fun _ _ => True) (hp : places.length ≤ 7) (hg : ∀ z ∈ endsOf ws, z ∉ goals) : Bf links places starts goals B (t + 1) lg := by
  refine ⟨J.way, fun z h1 h2 => ?_, fun g hm h => ?_, bl_few J hp⟩
  · rcases h1 with h1 | ⟨y, h1, h3, h4⟩
    · exact absurd (.inl h1) h2
    · have ny : ¬ Rb links starts B t y := fun q => h2 (.inr ⟨y, q, h3, h4⟩)
      obtain ⟨w, hw, hl⟩ := mem_ends.mp (I.all y h1 ny)
      refine J.all w hw y z h3 trivial hl h4 (fun q => ?_) fun q => h2 (way_in (I.way w hw).1 (I.way w hw).2 q)
      obtain ⟨v, hv, hv2⟩ := mem_ends.mp q
      exact h2 (way_in (I.way v hv).1 (I.way v hv).2 (List.mem_of_getElem? hv2))
  · by_cases q : Rb links starts B t g
    · exact I.no g hm q
    · exact hg g (I.all g h q) hm
theorem bf_end {goals : List Str} {ws : List (List Str)} (I : Bf links places starts goals B places.length ws) : ¬ ∃ g ∈ goals, Rch links starts B g := by
  have e : ws = [] := by
    cases ws with
    | nil => rfl
    | cons w r =>
      obtain ⟨W, hl⟩ := I.way w List.mem_cons_self
      have := nodup_len W.nd W.pl
      omega
  have cl : ∀ z, Rb links starts B (places.length + 1) z → Rb links starts B places.length z := fun z hz => by
    refine Classical.byContradiction fun q => ?_
    have := I.all z hz q
    rw [e] at this
    cases this
  have all : ∀ z, Rch links starts B z → Rb links starts B places.length z := fun z hz => by
    induction hz with
    | st h1 h2 => exact cl _ (.inl ⟨h1, h2⟩)
    | go h1 h2 h3 ih => exact cl _ (.inr ⟨_, ih, h2, h3⟩)
  rintro ⟨g, hg, h⟩
  exact I.no g hg (all g h)
end
/-! ### lists of ways -/
structure WaysAs (H : Hp) (A : Addr) (as : List Addr) (ws : List (List Str)) : Prop where
  at_ : H A = some (.lst (as.map V.ref))
  len : as.length = ws.length
  row : ∀ (i : Nat) a w, as[i]? = some a → ws[i]? = some w → H a = some (.lst (w.map V.str))
theorem wa_sm {H H' : Hp} (e : Same H H') {A : Addr} {as : List Addr} {ws : List (List Str)} (h : WaysAs H A as ws) : WaysAs H' A as ws := ⟨e _ _ h.at_, h.len, fun i a w h1 h2 => e _ _ (h.row i a w h1 h2)⟩
theorem wa_get {H : Hp} {A : Addr} {as : List Addr} {ws : List (List Str)} (h : WaysAs H A as ws) {i : Nat} {a : Addr} (ha : as[i]? = some a) : ∃ w, ws[i]? = some w ∧ H a = some (.lst (w.map V.str)) := by
  have hi : i < ws.length := by
    rw [← h.len]
    exact (List.getElem?_eq_some_iff.mp ha).1
  have hw : ws[i]? = some (ws[i]'hi) := List.getElem?_eq_getElem _
  exact ⟨_, hw, h.row i a _ ha hw⟩
theorem wa_ne {H : Hp} {A : Addr} {as : List Addr} {ws : List (List Str)} (h : WaysAs H A as ws) {i : Nat} {a : Addr} (ha : as[i]? = some a) : a ≠ A := by
  obtain ⟨w, _, hw⟩ := wa_get h ha
  intro e
  rw [e, h.at_] at hw
  injection hw with hw
  injection hw with hw
  cases as with
  | nil => simp at ha
  | cons b r =>
    cases w with
    | nil => cases hw
    | cons z t =>
      injection hw with hw _
      cases hw
theorem wa_app {H : Hp} {A b : Addr} {as : List Addr} {ws : List (List Str)} {w : List Str} (h : WaysAs H A as ws) (hb : H b = some (.lst (w.map V.str))) (ne : b ≠ A) : WaysAs (upd H A (.lst (as.map V.ref ++ [.ref b]))) A (as ++ [b]) (ws ++ [w]) := by
  refine ⟨?_, by rw [List.length_append, List.length_append, h.len]; rfl, fun i a v ha hv => ?_⟩
  · rw [upd_same, List.map_append]
    rfl
  · by_cases hi : i < as.length
    · rw [List.getElem?_append_left hi] at ha
      rw [List.getElem?_append_left (by rw [← h.len]; exact hi)] at hv
      rw [upd_ne (wa_ne h ha)]
      exact h.row i a v ha hv
    · have hi2 : i < (as ++ [b]).length := (List.getElem?_eq_some_iff.mp ha).1
      rw [List.length_append] at hi2
      have hi3 : i < as.length + 1 := hi2
      rw [List.getElem?_append_right (by omega)] at ha
      rw [List.getElem?_append_right (by rw [← h.len]; omega)] at hv
      have e0 : i - as.length = 0 := by omega
      have e1 : i - ws.length = 0 := by rw [← h.len]; exact e0
      rw [e0] at ha
      rw [e1] at hv
      cases ha
      cases hv
      rw [upd_ne ne]
      exact hb
theorem at_last {w : List Str} {z : Str} (h : lastOf w = some z) : atI (w.map V.str) (((w.map V.str).length : Int) - 1) = some (.str z) := by
  unfold lastOf at h
  have hl := (List.getElem?_eq_some_iff.mp h).1
  have e : ((w.map V.str).length : Int) - 1 = ((w.length - 1 : Nat) : Int) := by
    rw [List.length_map]
    omega
  rw [e]
  refine atI_nat ?_
  rw [List.getElem?_map, h]
  rfl
section
variable {P : Program} {w : World} {K : PySem.W.Frag} {mg : Str → Option Value} {base : Heap}
def spOneWay (K : PySem.W.Frag) : Sp := fun vs H Q _ => ∃ (p : Addr) (L : LandD) (sv gv bv : V) (starts goals B : List Str), vs = [.ref p, sv, gv, bv] ∧ PartsAt K H p L ∧ PartsOk L ∧ Dp K H sv (strsD starts) ∧ Dp K H gv (strsD goals) ∧ Dp K H bv (strsD B) ∧
  starts.length ≤ 7 ∧ (∀ z ∈ starts, z ∈ L.places) ∧ (∀ H', Same H H' → (¬ ∃ g ∈ goals, Rch L.links starts B g) → Q .non H') ∧
  ∀ a H' w, Same H H' → H' a = some (.lst (w.map V.str)) → Way L.links L.places starts B w → (∃ z, lastOf w = some z ∧ z ∈ goals) → Q (.ref a) H'
abbrev nmOneWay : List Str := ["_law_parts_here", "_law_starts", "_law_goals", "_law_places", "_law_ways", "_law_turn", "_law_way", "_law_longer", "_law_one", "_law_other", "_law_ends", "_law_place", "_law_row_here"]
theorem scOneWay : FnScope nmOneWay ["_law_parts_here", "_law_starts", "_law_goals", "_law_places"] (defScope sLawOneWay) := ⟨rfl, rfl, rfl, by decide +kernel, rfl, by decide +kernel, by decide +kernel⟩
set_option maxHeartbeats 8000000 in
theorem ok_one_way (T : Txt K mg) : Has P w K mg base 2 "_law_one_way" ["_law_parts_here", "_law_starts", "_law_goals", "_law_places"] (spOneWay K) := by
  have Go : Has P w K mg base 1 "_law_open" ["_law_parts_here"] (spLawOpen K) := ok_law_open T
  refine has_of T.dLawOneWay T.gLawOneWay scOneWay (fun vs H Q E h => by obtain ⟨p, L, sv, gv, bv, starts, goals, B, rfl, _⟩ := h; rfl) (fun _ _ _ _ _ _ us hl => match us, hl with | [_, _, _, _], _ => rfl) fun cdv A outer s H vs Q E hr h => ?_
  obtain ⟨p, L, sv, gv, bv, starts, goals, B, rfl, hPa, ok, hsv, hgv, hbv, s7, sp, kN, kW⟩ := h
  obtain ⟨a1, rfl, hS⟩ := dp_strs hsv
  obtain ⟨a2, rfl, hG⟩ := dp_strs hgv
  obtain ⟨a3, rfl, hB⟩ := dp_strs hbv
  obtain ⟨wd, pl, la, pa, hL, hw, hpl, hl, hpa⟩ := id hPa
  have p7 := ok.p7
  have lkp : ∀ {x y}, Edge L.links x y → y ∈ L.places := fun ⟨l, h1, _, _, h4⟩ => h4 ▸ (ok.ok.lk l h1).oth
  refine ⟨_, pss_cons (ps_setLc (i := 4) (own := [("_law_place", 11)]) (g := gName 11) (by rfl) scOneWay.nd rfl rfl (sw_true rfl rfl rfl (by decide +kernel)) (pi_list (pv 1)) (blkOk_by (N := nmOneWay) (sc := defScope sLawOneWay) (by decide +kernel))
      (fun _ _ _ _ _ => pg_name (i := 11) scOneWay.nd rfl (Or.inl rfl)) (fun _ _ _ _ _ => pts_one (pt_cmpR (niS_ K) (pv 11) (pv 3) (by rfl))) (fun _ _ _ _ _ => pe_lst (pa_cons (pv 11) pa_nil)))
    (pss_cons (ps_for PassesOwn.never rfl (pi_range1 (by rfl) T.fRange (pa_cons (pe_callB call_len_seq (by rfl) T.fLen PySem.boot_len (pa_cons (pe_ix ix_list (pv 0) pe_int (fun _ _ => rfl)) pa_nil)) pa_nil)) (pg_name (i := 5) scOneWay.nd rfl (.inl rfl))
    (pss_cons (ps_for PassesOwn.never rfl (pi_list (pv 4)) (pg_name (i := 6) scOneWay.nd rfl (.inl rfl))
    (pss_one (ps_if (pt_cmpR op_in_seq (pe_ix ix_list (pv 6) (pe_op op_sub (pe_callB call_len_seq (by rfl) T.fLen PySem.boot_len (pa_cons (pv 6) pa_nil)) pe_int) (fun _ _ => rfl)) (pv 2) (by rfl)) (pss_one (ps_ret (pv 6))) pss_nil)))
    (pss_cons (ps_set (i := 7) scOneWay.nd rfl (.inl rfl) (pe_lst pa_nil))
    (pss_cons (ps_for PassesOwn.never rfl (pi_list (pv 4)) (pg_name (i := 6) scOneWay.nd rfl (.inl rfl))
    (pss_one (ps_for PassesOwn.never rfl (pi_list (pe_f Go hr (by rfl) (pa_cons (pv 0) pa_nil))) (pg_tup rfl (pgs_cons (pg_name (i := 8) scOneWay.nd rfl (.inl rfl)) (pgs_cons (pg_name (i := 9) scOneWay.nd rfl (.inl rfl)) pgs_nil)))
    (pss_cons (ps_setLc (i := 10) (own := [("_law_row_here", 12)]) (g := gName 12) (by rfl) scOneWay.nd rfl rfl (sw_true rfl rfl rfl (by decide +kernel)) (pi_list (pe_op op_cat (pv 4) (pv 7))) (blkOk_by (N := nmOneWay) (sc := defScope sLawOneWay) (by decide +kernel))
      (fun _ _ _ _ _ => pg_name (i := 12) scOneWay.nd rfl (Or.inl rfl)) (fun _ _ _ _ _ => pts_nil) (fun _ _ _ _ _ => (pe_ix (ixL_ K) (pv 12) (pe_op op_sub (pe_callB (cLen_ K) (by rfl) T.fLen PySem.boot_len (pa_cons (pv 12) pa_nil)) pe_int) (fun _ _ => rfl))))
    (pss_one (ps_if (PW.pt (pw_and (pt_cmpR op_eq (pv 8) (pe_ix ix_list (pv 6) (pe_op op_sub (pe_callB call_len_seq (by rfl) T.fLen PySem.boot_len (pa_cons (pv 6) pa_nil)) pe_int) (fun _ _ => rfl)) (nomark _)) (pw_and (pt_cmpR op_notIn_seq (pv 9) (pv 3) (by rfl)) (pw_and (pt_cmpR op_notIn_seq (pv 9) (pv 10) (by rfl)) (pw_and1 (pt_cmpR op_notIn_seq (pv 9) (pv 6) (by rfl)))))))
       (pss_one (ps_expr (pe_bm PySem.F.plainAttrs_list PySem.F.slot_list_append PySem.F.type_list_append mt_append (pv 7) (pa_cons (pe_op op_cat (pv 6) (pe_lst (pa_cons (pv 9) pa_nil))) pa_nil)))) pss_nil))))))
    (pss_one (ps_set (i := 4) scOneWay.nd rfl (.inl rfl) (pv 7)))))))
    (pss_one (ps_ret pe_non))), ?_⟩
  refine ⟨_, rfl, a1, rfl, ⟨_, hS⟩, fun D hD => lc_it walk_list (fun i H' => Same H H' ∧ ∃ as, WaysAs H' D as (((starts.take i).filter fun z => decide (z ∉ B)).map fun z => [z]) ∧ as.length ≤ i) ⟨sm_up hD, [], ⟨upd_same, rfl, fun i a w h => by simp at h⟩, Nat.le_refl _⟩ (fun i H' _ q => q.1.seq hS) ?_ ?_⟩
  · rintro i x Ha Hb hi ⟨t1, as, W, al⟩ ⟨rfl, hx⟩
    obtain ⟨z, h3, rfl⟩ := get_map hx
    have hi' : i < starts.length := (List.getElem?_eq_some_iff.mp h3).1
    refine ⟨rfl, _, rfl, _, rfl, a3, _, rfl, .inl (t1.seq hB), rfl, flat_strs _, decide (z ∉ B), ?_, ?_⟩
    · rw [inV_str]
      simp
    · refine ite2 (fun c => ?_) fun c => ?_
      · refine ⟨_, rfl, (by show 1 ≤ sizeLine; decide), fun b hb => ?_⟩
        have f1 := sm_up (o := .lst [.str z]) hb
        have W1 := wa_sm f1 W
        have bD : b ≠ D := by
          intro e
          rw [e, W.at_] at hb
          cases hb
        refine ⟨_, W1.at_, small1000 (by rw [List.length_map]; omega), sm_mut (t1.trans f1) hD, as ++ [b], ?_, by rw [List.length_append]; exact Nat.add_le_add_right al 1⟩
        have q := wa_app (w := [z]) W1 upd_same bD
        rw [take_snoc h3, List.filter_append, List.map_append]
        have e : (([z].filter fun z => decide (z ∉ B)).map fun z => [z]) = [[z]] := by
          have c' : z ∉ B := of_decide_eq_true c
          simp [c']
        rw [e]
        exact q
      · have c' : z ∈ B := Classical.byContradiction fun q => c (decide_eq_true q)
        refine ⟨t1, as, ?_, Nat.le_succ_of_le al⟩
        rw [take_snoc h3, List.filter_append, List.map_append]
        have e : (([z].filter fun z => decide (z ∉ B)).map fun z => [z]) = [] := by simp [c']
        rw [e, List.append_nil]
        exact W
  rintro H1 ⟨t1, as0, W0, _⟩
  rw [List.length_map, List.take_length] at W0
  have B0 : Bf L.links L.places starts goals B 0 ((starts.filter fun z => decide (z ∉ B)).map fun z => [z]) := bf_start sp s7 goals
  refine ⟨_, rfl, p, _, 1, _, rfl, rfl, t1.seq hL, rfl, pl, _, rfl, .inr (sm_tup t1 hpl), ((L.places.map V.str).length : Int), rfl, (by omega), (by rw [List.length_map]; omega),
    for_it walk_range (fun t σ H' => Same H H' ∧ ∃ (A : Addr) (as : List Addr) (ws : List (List Str)), (∃ u5 u6 u7 u8 u9 u10, σ = [some (.ref p), some (.ref a1), some (.ref a2), some (.ref a3), some (.ref A), u5, u6, u7, u8, u9, u10, none, none]) ∧ WaysAs H' A as ws ∧ Bf L.links L.places starts goals B t ws)
      ⟨t1, D, as0, _, ⟨_, _, _, _, _, _, rfl⟩, W0, B0⟩ (fun _ _ _ _ _ => trivial) ?_ ?_⟩
  · rintro t x σ Ha Hb hi ⟨v1, A, as, ws, ⟨u5, u6, u7, u8, u9, u10, rfl⟩, W, I⟩ ⟨rfl, rfl⟩
    have few := I.few
    -- is a goal come to
    refine ⟨_, rfl, A, rfl, ⟨_, SqL.of W.at_⟩, for_list (K := K) (a := A) (xs := as.map V.ref) (fun i σ H' => H' = Hb ∧ (∃ u6, σ = [some (.ref p), some (.ref a1), some (.ref a2), some (.ref a3), some (.ref A), some (.int (0 + (t : Int))), u6, u7, u8, u9, u10, none, none]) ∧ ∀ (j : Nat) v, j < i → ws[j]? = some v → ∀ z, lastOf v = some z → z ∉ goals)
      ⟨rfl, ⟨_, rfl⟩, fun j v h => absurd h (Nat.not_lt_zero _)⟩ (fun i σ H' _ q => by rw [q.1]; exact SqL.of W.at_) ?_ ?_⟩
    · rintro i x σ Hc hx ⟨rfl, ⟨u6', rfl⟩, hno⟩
      obtain ⟨b, h3, rfl⟩ := get_map hx
      obtain ⟨v, hv, hb⟩ := wa_get W h3
      obtain ⟨wy, wl⟩ := I.way v (List.mem_of_getElem? hv)
      obtain ⟨z, hz, hzm⟩ := last_some wy.ne
      refine ⟨_, rfl, _, rfl, b, _, rfl, .inl (SqL.of hb), _, _, rfl, rfl, b, _, _, .str z, rfl, rfl, SqL.of hb, at_last hz, _, rfl, a2, _, rfl, .inl (v1.seq hG), rfl, flat_strs _, decide (z ∈ goals), ?_, ?_⟩
      · rw [inV_str]
        rfl
      · refine ite2 (fun c => ?_) fun c => ?_
        · exact ⟨_, rfl, kW b Hc v v1 hb wy ⟨z, hz, of_decide_eq_true c⟩⟩
        · refine ⟨rfl, ⟨_, rfl⟩, fun j v' hj hv' z' hz' => ?_⟩
          by_cases e : j = i
          · subst e
            rw [hv] at hv'
            cases hv'
            rw [hz] at hz'
            cases hz'
            exact fun q => c (decide_eq_true q)
          · exact hno j v' (by omega) hv' z' hz'
    rintro σ Hc ⟨rfl, ⟨u6', rfl⟩, hno⟩
    rw [List.length_map, W.len] at hno
    have hg : ∀ z ∈ endsOf ws, z ∉ goals := fun z hz => by
      obtain ⟨v, hv, hl'⟩ := mem_ends.mp hz
      obtain ⟨j, hj, e⟩ := List.mem_iff_getElem.mp hv
      exact hno j v hj (by rw [← e]; exact List.getElem?_eq_getElem _) z hl'
    -- longer ways
    refine ⟨Nat.zero_le _, fun Lg hLg => ?_⟩
    have f0 := sm_up (o := .lst []) hLg
    refine ⟨_, rfl, A, rfl, ⟨_, SqL.of (f0 _ _ W.at_)⟩, for_list (K := K) (a := A) (xs := as.map V.ref) (fun i σ H' => Same Hc H' ∧ (∃ u6 u8 u9 u10, σ = [some (.ref p), some (.ref a1), some (.ref a2), some (.ref a3), some (.ref A), some (.int (0 + (t : Int))), u6, some (.ref Lg), u8, u9, u10, none, none]) ∧
      ∃ as2 lg, WaysAs H' Lg as2 lg ∧ Bl L.links L.places starts B t ws lg fun v y => ∃ j, j < i ∧ ws[j]? = some v) ⟨f0, ⟨_, _, _, _, rfl⟩, [], [], ⟨upd_same, rfl, fun i a w h => by simp at h⟩, bl_sub (bl_start t ws) fun v _ x y _ ⟨j, h, _⟩ => absurd h (Nat.not_lt_zero _)⟩ (fun i σ H' _ q => SqL.of (q.1 _ _ W.at_)) ?_ ?_⟩
    · rintro i x σ Hd hx ⟨e1, ⟨u6'', u8', u9', u10', rfl⟩, as2, lg, W2, J⟩
      obtain ⟨b, h3, rfl⟩ := get_map hx
      obtain ⟨v, hv, hb⟩ := wa_get W h3
      have hvm := List.mem_of_getElem? hv
      obtain ⟨wy, wl⟩ := I.way v hvm
      obtain ⟨x0, hz, hzm⟩ := last_some wy.ne
      refine ⟨_, rfl, p, L, rfl, parts_sm (v1.trans e1) hPa, by have := ok.l10; omega, fun l hl' => by have := (ok.ok.lk l hl').ts; have := ok.ok.wn; omega, fun o He ho e2 hls => ⟨o, rfl, ?_, ?_⟩⟩
      · obtain ⟨acc, hA, _⟩ := hls
        exact ⟨_, SqL.of hA⟩
      have oL : o ≠ Lg := by
        intro q
        rw [q, W2.at_] at ho
        cases ho
      obtain ⟨acc, hA, hda, hnl⟩ := id hls
      have al : acc.length = (opL L.links).length := by rw [dpa_len hda, List.length_map]
      have b0 : b ≠ Lg := ne_of_none hb hLg
      refine for_list (K := K) (a := o) (xs := acc) (fun j σ H' => Same Hc H' ∧ (∃ u8 u9 u10, σ = [some (.ref p), some (.ref a1), some (.ref a2), some (.ref a3), some (.ref A), some (.int (0 + (t : Int))), some (.ref b), some (.ref Lg), u8, u9, u10, none, none]) ∧ H' o = some (.lst acc) ∧ Tps He H' ∧
        ∃ as2 lg, WaysAs H' Lg as2 lg ∧ Bl L.links L.places starts B t ws lg fun v' y => (∃ j, j < i ∧ ws[j]? = some v') ∨ (v' = v ∧ (x0, y) ∈ (opL L.links).take j)) ⟨e1.trans e2, ⟨_, _, _, rfl⟩, hA, Tps.refl _, as2, lg, wa_sm e2 W2, bl_sub J fun v' hv' x y _ hD _ _ _ _ => ?_⟩ (fun j σ H' _ q => SqL.of q.2.2.1) ?_ ?_
      · rcases hD with hD | ⟨_, hD⟩
        · exact .inl hD
        · simp at hD
      · rintro j xx σ Hf hxx ⟨g1, ⟨u8'', u9'', u10'', rfl⟩, g2, g3, as3, lg3, W3, J3⟩
        obtain ⟨d, h1, h2⟩ := dpa_get hda hxx
        obtain ⟨r, hr1, rfl⟩ := get_map h1
        obtain ⟨c, y1, y2, rfl, hc, hy1, hy2⟩ := dp_tup2 (dp_tps g3 _ _ (nl_prS r) h2)
        obtain rfl := dp_str hy1
        obtain rfl := dp_str hy2
        have hed : Edge L.links r.1 r.2 := opL_mem.mp (List.mem_of_getElem? hr1)
        have fw3 := bl_few J3 p7
        have W1 := wa_sm g1 W
        refine ⟨c, _, rfl, hc, rfl, _, _, rfl, _, _, rfl, rfl, ?_⟩
        refine ⟨_, rfl, _, rfl, A, Lg, _, _, rfl, rfl, W1.at_, W3.at_, ?_, fun C hC => ?_⟩
        · refine Nat.le_of_lt (small1000 ?_)
          rw [List.length_map, List.length_map, W1.len, W3.len]
          omega
        have f1 := sm_up (o := .lst (as.map V.ref ++ as3.map V.ref)) hC
        -- the ends
        have both : ∀ {k : Nat} {u : V}, (as.map V.ref ++ as3.map V.ref)[k]? = some u → ∃ a' v', u = .ref a' ∧ (ws ++ lg3)[k]? = some v' ∧ Hf a' = some (.lst (v'.map V.str)) ∧ 1 ≤ v'.length := fun {k u} hk => by
          by_cases q : k < as.length
          · rw [List.getElem?_append_left (by rw [List.length_map]; exact q)] at hk
            obtain ⟨a', h4, rfl⟩ := get_map hk
            obtain ⟨v', h5, h6⟩ := wa_get W1 h4
            refine ⟨a', v', rfl, ?_, h6, (I.way v' (List.mem_of_getElem? h5)).1.ne⟩
            rw [List.getElem?_append_left (by rw [← W1.len]; exact q)]
            exact h5
          · rw [List.getElem?_append_right (by rw [List.length_map]; omega), List.length_map] at hk
            obtain ⟨a', h4, rfl⟩ := get_map hk
            obtain ⟨v', h5, h6⟩ := wa_get W3 h4
            refine ⟨a', v', rfl, ?_, h6, (J3.way v' (List.mem_of_getElem? h5)).1.ne⟩
            rw [List.getElem?_append_right (by rw [← W1.len]; omega), ← W1.len]
            exact h5
        have cl : (as.map V.ref ++ as3.map V.ref).length = (ws ++ lg3).length := by
          rw [List.length_append, List.length_append, List.length_map, List.length_map, W1.len, W3.len]
        refine ⟨C, rfl, ⟨_, SqL.of upd_same⟩, fun E1 hE1 => lc_data (K := K) walk_list hE1 (fun k => (endsOf ((ws ++ lg3).take k)).map PyData.str) rfl (fun k hk => ?_) (fun H' e => SqL.of (e _ _ upd_same)) ?_ ?_⟩
        · rw [List.length_map]
          refine Nat.lt_of_le_of_lt (List.length_filterMap_le _ _) (small1000 ?_)
          rw [List.length_take, List.length_append]
          omega
        · rintro k u Hg Hh N2 hk e3 ⟨rfl, hu⟩ kY kN2
          obtain ⟨a', v', rfl, h4, h5, h6⟩ := both hu
          have h7 := (f1.trans e3) _ _ h5
          obtain ⟨z', hz', _⟩ := last_some h6
          refine ⟨rfl, _, rfl, _, rfl, a', _, rfl, .inl (SqL.of h7), _, _, rfl, rfl, a', _, _, .str z', rfl, rfl, SqL.of h7, at_last hz', ?_⟩
          refine kY _ _ (.str z') (Same.refl _) (.str _) rfl ?_
          rw [take_snoc h4, ends_snoc hz', List.map_append]
          rfl
        intro Hg e3 hlsE
        obtain ⟨ac, hAc, hdc, _⟩ := hlsE
        rw [cl, List.take_length] at hdc
        rw [dpa_ofStrs hdc] at hAc
        clear hdc
        have g4 := f1.trans e3
        have g5 := g1.trans g4
        have hb5 := g5 _ _ hb
        have hB5 := (v1.trans g5).seq hB
        have W5 := wa_sm g4 W3
        have skip : (r.1 = x0 → r.2 ∉ B → r.2 ∉ endsOf ws → r.2 ∉ v → r.2 ∈ endsOf lg3) → Bl L.links L.places starts B t ws lg3 fun v' y => (∃ j, j < i ∧ ws[j]? = some v') ∨ (v' = v ∧ (x0, y) ∈ (opL L.links).take (j + 1)) := fun hh => bl_sub J3 fun v' hv' x y he hD q1 q2 q3 q4 => by
          rcases hD with hD | ⟨ev, hD⟩
          · exact .inl (.inl hD)
          · rw [take_snoc hr1] at hD
            rcases List.mem_append.mp hD with hD | hD
            · exact .inl (.inr ⟨ev, hD⟩)
            · have er := List.mem_singleton.mp hD
              subst ev
              rw [hz] at q1
              cases q1
              rw [← er] at hh
              exact .inr (hh rfl q2 q3 q4)
        have stay : (r.1 = x0 → r.2 ∉ B → r.2 ∉ endsOf ws → r.2 ∉ v → r.2 ∈ endsOf lg3) → (fun (σ : L2.St) (H' : Hp) => Same Hc H' ∧ (∃ u8 u9 u10, σ = [some (.ref p), some (.ref a1), some (.ref a2), some (.ref a3), some (.ref A), some (.int (0 + (t : Int))), some (.ref b), some (.ref Lg), u8, u9, u10, none, none]) ∧ H' o = some (.lst acc) ∧ Tps He H' ∧
          ∃ as2 lg, WaysAs H' Lg as2 lg ∧ Bl L.links L.places starts B t ws lg fun v' y => (∃ j, j < i ∧ ws[j]? = some v') ∨ (v' = v ∧ (x0, y) ∈ (opL L.links).take (j + 1))) [some (.ref p), some (.ref a1), some (.ref a2), some (.ref a3), some (.ref A), some (.int (0 + (t : Int))), some (.ref b), some (.ref Lg), some (.str r.1), some (.str r.2), some (.ref E1), none, none] Hg :=
          fun hh => ⟨g5, ⟨_, _, _, rfl⟩, g4 _ _ g2, g3.trans (tps_sm g4), as3, lg3, W5, skip hh⟩
        -- one == way[-1]
        refine ⟨_, rfl, _, rfl, _, rfl, b, _, rfl, .inl (SqL.of hb5), _, _, rfl, rfl, b, _, _, .str x0, rfl, rfl, SqL.of hb5, at_last hz, rfl, _, rfl, ?_⟩
        by_cases c1 : r.1 = x0
        · have ed : decide (V.str r.1 = V.str x0) = true := decide_eq_true (by rw [c1])
          refine ite2 (fun _ => ?_) (fun z => absurd ed z)
          refine ⟨_, rfl, _, rfl, a3, _, rfl, .inl hB5, rfl, flat_strs _, decide (r.2 ∉ B), (by rw [inV_str]; simp), ?_⟩
          by_cases c2 : r.2 ∈ B
          · rw [decide_eq_false (fun q => q c2)]
            exact iteF (iteF (stay fun _ q => absurd c2 q))
          · rw [decide_eq_true c2]
            refine iteT ⟨_, rfl, _, rfl, E1, _, rfl, .inl (SqL.of hAc), rfl, flat_strs _, decide (r.2 ∉ endsOf (ws ++ lg3)), (by rw [inV_str]; simp), ?_⟩
            have ends2 : ∀ z, z ∈ endsOf (ws ++ lg3) ↔ z ∈ endsOf ws ∨ z ∈ endsOf lg3 := fun z => by
              unfold endsOf
              rw [List.filterMap_append, List.mem_append]
            by_cases c3 : r.2 ∈ endsOf (ws ++ lg3)
            · rw [decide_eq_false (fun q => q c3)]
              exact iteF (iteF (stay fun _ _ q _ => ((ends2 _).mp c3).resolve_left q))
            · rw [decide_eq_true c3]
              refine iteT ⟨_, rfl, _, rfl, b, _, rfl, .inl (SqL.of hb5), rfl, flat_strs _, decide (r.2 ∉ v), (by rw [inV_str]; simp), ?_⟩
              by_cases c4 : r.2 ∈ v
              · rw [decide_eq_false (fun q => q c4)]
                exact iteF (stay fun _ _ _ q => absurd c4 q)
              · rw [decide_eq_true c4]
                refine iteT ⟨_, rfl, .inl ⟨rfl, _, SqL.of W5.at_⟩, _, rfl, _, rfl, (by show 1 ≤ sizeLine; decide), fun q1 hq1 => ?_⟩
                have f5 := sm_up (o := .lst [.str r.2]) hq1
                have pl7 := nodup_len wy.nd wy.pl
                refine ⟨b, q1, _, _, rfl, rfl, f5 _ _ hb5, upd_same, Nat.le_of_lt (small1000 (by rw [List.length_map]; show v.length + 1 ≤ 1000; omega)), fun nw hnw => ?_⟩
                have f6 := sm_up (o := .lst (v.map V.str ++ [.str r.2])) hnw
                have W6 := wa_sm (f5.trans f6) W5
                have nL : nw ≠ Lg := by
                  intro q
                  rw [q, f5 _ _ W5.at_] at hnw
                  cases hnw
                refine ⟨Lg, _, _, rfl, rfl, W6.at_, small1000 (by rw [List.length_map, W6.len]; omega), ?_⟩
                have g6 := g5.trans (f5.trans f6)
                refine ⟨sm_mut g6 hLg, ⟨_, _, _, rfl⟩, by rw [upd_ne oL]; exact (g4.trans (f5.trans f6)) _ _ g2, (g3.trans (tps_sm (g4.trans (f5.trans f6)))).trans (tps_upd W6.at_ trivial), as3 ++ [nw], lg3 ++ [v ++ [r.2]], wa_app W6 (by rw [upd_same, List.map_append]; rfl) nL, ?_⟩
                refine bl_push J3 hvm wy wl (by rw [← c1] at hz; exact hz) hed c2 (lkp hed) (fun q => c3 ((ends2 _).mpr (.inr q))) c4 fun v' _ z hD => ?_
                rcases hD with hD | ⟨ev, hD⟩
                · exact .inl (.inl hD)
                · rw [take_snoc hr1] at hD
                  rcases List.mem_append.mp hD with hD | hD
                  · exact .inl (.inr ⟨ev, hD⟩)
                  · have er := List.mem_singleton.mp hD
                    exact .inr (by rw [← er])
        · have ed : ¬ decide (V.str r.1 = V.str x0) = true := fun z => c1 (V.str.inj (of_decide_eq_true z))
          refine ite2 (fun z => absurd z ed) (fun _ => ?_)
          exact iteF (stay fun q => absurd q c1)
      · rintro σ Hf ⟨g1, ⟨u8'', u9'', u10'', rfl⟩, g2, g3, as3, lg3, W3, J3⟩
        rw [al, List.take_length] at J3
        refine ⟨g1, ⟨_, _, _, _, rfl⟩, as3, lg3, W3, bl_sub J3 fun v' hv' x y he hD q1 q2 q3 q4 => ?_⟩
        obtain ⟨j, hj, hvj⟩ := hD
        by_cases e : j = i
        · subst e
          rw [hv] at hvj
          cases hvj
          rw [hz] at q1
          cases q1
          exact .inl (.inr ⟨rfl, opL_mem.mpr he⟩)
        · exact .inl (.inl ⟨j, by omega, hvj⟩)
    · rintro σ Hd ⟨e1, ⟨u6'', u8', u9', u10', rfl⟩, as2, lg, W2, J⟩
      rw [List.length_map, W.len] at J
      refine ⟨_, rfl, v1.trans e1, Lg, as2, lg, ⟨_, _, _, _, _, _, rfl⟩, W2, bf_next I (bl_sub J fun v hv x y _ _ _ _ _ _ => ?_) p7 hg⟩
      obtain ⟨j, hj, e⟩ := List.mem_iff_getElem.mp hv
      exact .inl ⟨j, hj, by rw [← e]; exact List.getElem?_eq_getElem _⟩
  · rintro σ Hb ⟨v1, A, as, ws, ⟨u5, u6, u7, u8, u9, u10, rfl⟩, W, I⟩
    rw [Int.toNat_natCast, List.length_map] at I
    exact kN Hb v1 (bf_end I)
end
def rEqP (K : PySem.W.Frag) : R2 := fun x y H Q => ∃ d e, Dp K H x d ∧ Dp K H y e ∧ d.plain = true ∧ e.plain = true ∧ e.depth ≤ 50 ∧ Q (.bl (PyData.eqv d e)) H
theorem op_eqP {X : Cx} (hu : X.A.units + 64 < cLine) : OpR X (compareOp .Eq) (rEqP X.K) := by
  intro pins s σ H x y v u Q I rx ry h
  obtain ⟨d, e, hd, he, p1, p2, dp, q⟩ := h
  obtain ⟨as, r1⟩ := Dp.reads I d x v hd rx
  obtain ⟨bs, r2⟩ := Dp.reads I e y u he ry
  exact SeqAt.eq_plain r1 r2 p1 p2 (by have := Nat.min_le_right d.depth e.depth; omega) ⟨.bl _, H, I, rfl, q⟩
/-- a link that is open in the wind z, with the most minutes h -/
def OpenIn (L : LandD) (x y z : Str) (h : Int) : Prop := ∃ l ∈ L.links, l.one = x ∧ l.oth = y ∧ ∃ (n : Nat) (lo : Int), L.winds[n]? = some z ∧ l.ts[n]? = some (some (lo, h))
/-- the weather that is made for the first k links of a way, and the minute behind them -/
structure Wf (L : LandD) (w : List Str) (k : Nat) (wt : List (Int × Str)) (m : Int) : Prop where
  len : wt.length = k
  at0 : ∀ r, wt[0]? = some r → r.1 = 0
  m0 : k = 0 → m = 0
  row : ∀ (i : Nat) r x y, wt[i]? = some r → w[i]? = some x → w[i + 1]? = some y → ∃ h, OpenIn L x y r.2 h ∧ (∀ s, wt[i + 1]? = some s → s.1 = r.1 + h) ∧ (i + 1 = k → m = r.1 + h)
  top : m ≤ 1000 * k
  most : ∀ r ∈ wt, 0 ≤ r.1 ∧ r.1 ≤ 1000 * k
  mem : ∀ r ∈ wt, r.2 ∈ L.winds
def chD : Option (Str × Int) → PyData
  | none => .none
  | some (z, h) => .tuple [.str z, .int h]
theorem open_bd {L : LandD} (ok : LandOk L) {x y z : Str} {h : Int} (o : OpenIn L x y z h) : 1 ≤ h ∧ h ≤ 1000 ∧ z ∈ L.winds := by
  obtain ⟨l, h1, _, _, n, lo, h4, h5⟩ := o
  have b := (ok.lk l h1).bd lo h (List.mem_of_getElem? h5)
  exact ⟨by omega, by omega, List.mem_of_getElem? h4⟩
theorem wf_more {L : LandD} (ok : LandOk L) {w : List Str} {k : Nat} {wt : List (Int × Str)} {m : Int} (W : Wf L w k wt m) (hm : 0 ≤ m) {x y z : Str} {h : Int} (hx : w[k]? = some x) (hy : w[k + 1]? = some y) (o : OpenIn L x y z h) : Wf L w (k + 1) (wt ++ [(m, z)]) (m + h) ∧ 0 ≤ m + h := by
  obtain ⟨b1, b2, b3⟩ := open_bd ok o
  have len := W.len
  have top := W.top
  refine ⟨⟨by rw [List.length_append, len]; rfl, fun r hr => ?_, fun e => by omega, fun i r x' y' hr hx' hy' => ?_, by push_cast; omega, fun r hr => ?_, fun r hr => ?_⟩, by omega⟩
  · by_cases hk : k = 0
    · have e : wt = [] := List.length_eq_zero_iff.mp (by omega)
      rw [e] at hr
      cases hr
      exact W.m0 hk
    · rw [List.getElem?_append_left (by omega)] at hr
      exact W.at0 r hr
  · by_cases hi : i < wt.length
    · rw [List.getElem?_append_left hi] at hr
      obtain ⟨g, g1, g2, g3⟩ := W.row i r x' y' hr hx' hy'
      refine ⟨g, g1, fun s hs => ?_, fun e => by omega⟩
      by_cases hi2 : i + 1 < wt.length
      · rw [List.getElem?_append_left hi2] at hs
        exact g2 s hs
      · rw [List.getElem?_append_right (by omega)] at hs
        have e0 : i + 1 - wt.length = 0 := by omega
        rw [e0] at hs
        cases hs
        exact g3 (by omega)
    · have hi2 : i < (wt ++ [(m, z)]).length := (List.getElem?_eq_some_iff.mp hr).1
      rw [List.length_append] at hi2
      have hi3 : i < wt.length + 1 := hi2
      have ei : i = k := by omega
      subst ei
      rw [List.getElem?_append_right (by omega)] at hr
      have e0 : i - wt.length = 0 := by omega
      rw [e0] at hr
      cases hr
      rw [hx] at hx'
      rw [hy] at hy'
      cases hx'
      cases hy'
      refine ⟨h, o, fun s hs => ?_, fun _ => rfl⟩
      rw [List.getElem?_eq_none (by rw [List.length_append, len]; show i + 1 ≤ i + 1; omega)] at hs
      cases hs
  · rcases List.mem_append.mp hr with hr | hr
    · have := W.most r hr
      push_cast
      omega
    · rw [List.mem_singleton.mp hr]
      push_cast
      show 0 ≤ m ∧ m ≤ 1000 * ((k : Int) + 1)
      omega
  · rcases List.mem_append.mp hr with hr | hr
    · exact W.mem r hr
    · rw [List.mem_singleton.mp hr]
      exact b3
/-- the weather the law makes -/
def Wfor (L : LandD) (w : List Str) (wt : List (Int × Str)) : Prop := (w.length = 1 ∧ ∃ z ∈ L.winds, wt = [(0, z)]) ∨ (2 ≤ w.length ∧ ∃ m, Wf L w (w.length - 1) wt m)
section
variable {P : Program} {w : World} {K : PySem.W.Frag} {mg : Str → Option Value} {base : Heap}
def spWeatherFor (K : PySem.W.Frag) : Sp := fun vs H Q _ => ∃ (p : Addr) (L : LandD) (b : Addr) (wy : List Str) (starts B : List Str), vs = [.ref p, .ref b] ∧ PartsAt K H p L ∧ PartsOk L ∧ H b = some (.lst (wy.map V.str)) ∧ Way L.links L.places starts B wy ∧ ∀ v H' wt, Same H H' → Dp K H' v (.list (wt.map wrD)) → Wfor L wy wt → Q v H'
abbrev nmWeatherFor : List Str := ["_law_parts_here", "_law_way", "_law_rows", "_law_minute", "_law_k", "_law_chosen", "_law_link", "_law_n"]
theorem scWeatherFor : FnScope nmWeatherFor ["_law_parts_here", "_law_way"] (defScope sLawWeatherFor) := ⟨rfl, rfl, rfl, by decide +kernel, rfl, by decide +kernel, by decide +kernel⟩
theorem ok_weather_for (T : Txt K mg) : Has P w K mg base 1 "_law_weather_for" ["_law_parts_here", "_law_way"] (spWeatherFor K) := by
  refine has_of T.dLawWeatherFor T.gLawWeatherFor scWeatherFor (fun vs H Q E h => by obtain ⟨p, L, b, wy, starts, B, rfl, _⟩ := h; rfl) (fun _ _ _ _ _ _ us hl => match us, hl with | [_, _], _ => rfl) fun cdv A outer s H vs Q E hr h => ?_
  obtain ⟨p, L, b, wy, starts, B, rfl, hP, ok, hb, W, k⟩ := h
  obtain ⟨wd, pl, la, pa, hL, hw, hpl, hl, hpa⟩ := id hP
  have hwt : SqT K H wd (L.winds.map V.str) := tupN_sq hw
  obtain ⟨la', xs, el, hX, hd⟩ := dp_tup hl
  cases el
  have llen : xs.length = L.links.length := by rw [dpa_len hd, List.length_map]
  have w1 := W.ne
  have w7 := Nat.le_trans (nodup_len W.nd W.pl) ok.p7
  have wn1 := ok.ok.wn1
  have wl4 := ok.ok.wn
  have wm : (wy.map V.str).length = wy.length := List.length_map _
  have wm2 : (L.winds.map V.str).length = L.winds.length := List.length_map _
  refine ⟨_, pss_cons (ps_set (i := 2) scWeatherFor.nd rfl (.inl rfl) (pe_lst pa_nil))
    (pss_cons (ps_set (i := 3) scWeatherFor.nd rfl (.inl rfl) pe_int)
    (pss_cons (ps_for PassesOwn.never rfl (pi_range1 (by rfl) T.fRange (pa_cons (pe_op op_sub (pe_callB call_len_seq (by rfl) T.fLen PySem.boot_len (pa_cons (pv 1) pa_nil)) pe_int) pa_nil)) (pg_name (i := 4) scWeatherFor.nd rfl (.inl rfl))
    (pss_cons (ps_set (i := 5) scWeatherFor.nd rfl (.inl rfl) pe_non)
    (pss_cons (ps_for PassesOwn.never rfl (pi_tup (pe_ix ix_list (pv 0) pe_int (fun _ _ => rfl))) (pg_name (i := 6) scWeatherFor.nd rfl (.inl rfl))
    (pss_one (ps_for PassesOwn.never rfl (pi_range1 (by rfl) T.fRange (pa_cons (pe_callB call_len_seq (by rfl) T.fLen PySem.boot_len (pa_cons (pe_ix ix_list (pv 0) pe_int (fun _ _ => rfl)) pa_nil)) pa_nil)) (pg_name (i := 7) scWeatherFor.nd rfl (.inl rfl))
    (pss_one (ps_if (PW.pt (pw_and (pt_cmpR (op_eqP hr.units) (pe_slice sl_tup (pv 6) (po_some pe_int) (po_some pe_int)) (pe_tup (pa_cons (pe_ix ix_list (pv 1) (pv 4) (fun _ _ => rfl)) (pa_cons (pe_ix ix_list (pv 1) (pe_op op_add (pv 4) pe_int) (fun _ _ => rfl)) pa_nil))) (nomark _)) (pw_and (pt_cmp (pc_notN (pe_ix ix_tup (pe_ix ix_tup (pv 6) pe_int (fun _ _ => rfl)) (pv 7) (fun _ _ => rfl)))) (pw_and1 (pt_cmp (pc_isN (pv 5))))))) (pss_one (ps_set (i := 5) scWeatherFor.nd rfl (.inl rfl) (pe_tup (pa_cons (pe_ix ix_tup (pe_ix ix_list (pv 0) pe_int (fun _ _ => rfl)) (pv 7) (fun _ _ => rfl)) (pa_cons (pe_ix ix_tup (pe_ix ix_tup (pe_ix ix_tup (pv 6) pe_int (fun _ _ => rfl)) (pv 7) (fun _ _ => rfl)) pe_int (fun _ _ => rfl)) pa_nil))))) pss_nil)))))
    (pss_cons (ps_expr (pe_bm PySem.F.plainAttrs_list PySem.F.slot_list_append PySem.F.type_list_append mt_append (pv 2) (pa_cons (pe_tup (pa_cons (pv 3) (pa_cons (pe_ix ix_tup (pv 5) pe_int (fun _ _ => rfl)) pa_nil))) pa_nil)))
    (pss_one (ps_set (i := 3) scWeatherFor.nd rfl (.inl rfl) (pe_op op_add (pv 3) (pe_ix ix_tup (pv 5) pe_int (fun _ _ => rfl)))))))))
    (C8.pss_cut (ps_if (pt_cmpR op_eq (pe_callB call_len_seq (by rfl) T.fLen PySem.boot_len (pa_cons (pv 2) pa_nil)) pe_int (nomark _)) (pss_one (ps_set (i := 2) scWeatherFor.nd rfl (.inl rfl) (pe_lst (pa_cons (pe_tup (pa_cons pe_int (pa_cons (pe_ix ix_tup (pe_ix ix_list (pv 0) pe_int (fun _ _ => rfl)) pe_int (fun _ _ => rfl)) pa_nil))) pa_nil)))) pss_nil)
    (pss_one (ps_ret (pv 2)))))), ?_⟩
  refine ⟨Nat.zero_le _, fun D hD => ?_⟩
  have s0 := sm_up (o := .lst []) hD
  have en : (((wy.map V.str).length : Int) - 1) = ((wy.length - 1 : Nat) : Int) := by omega
  refine ⟨_, rfl, b, _, rfl, .inl (SqL.of (s0 _ _ hb)), _, _, rfl, rfl, ((wy.length - 1 : Nat) : Int), congrArg (fun z => [V.int z]) en, (by omega), (by omega),
    for_it walk_range (fun i σ H' => Same H H' ∧ ∃ (m : Int) (wt : List (Int × Str)), (∃ u4 u5 u6 u7, σ = [some (.ref p), some (.ref b), some (.ref D), some (.int m), u4, u5, u6, u7]) ∧ LsAt K H' D (wt.map wrD) ∧ Wf L wy i wt m ∧ 0 ≤ m)
      ⟨s0, 0, [], ⟨_, _, _, _, rfl⟩, ⟨[], upd_same, .nil, rfl⟩, ⟨rfl, fun r h => by simp at h, fun _ => rfl, fun i r x y h => by simp at h, by simp, (fun r h => nomatch h), (fun r h => nomatch h)⟩, Int.le_refl _⟩ (fun _ _ _ _ _ => trivial) ?_ ?_⟩
  · rintro i x σ Ha Hb hi ⟨t1, m, wt, ⟨u4, u5, u6, u7, rfl⟩, ⟨acc, hA, hda, hnl⟩, F, m0⟩ ⟨rfl, rfl⟩
    rw [Int.toNat_natCast] at hi
    have hx : wy[i]? = some (wy[i]'(by omega)) := List.getElem?_eq_getElem _
    have hy : wy[i + 1]? = some (wy[i + 1]'(by omega)) := List.getElem?_eq_getElem _
    have hed := W.ed i _ _ hx hy
    generalize wy[i]'(by omega) = x at hx hed
    generalize wy[i + 1]'(by omega) = y at hy hed
    have atx : atI (wy.map V.str) (0 + (i : Int)) = some (.str x) := by
      rw [Int.zero_add]
      refine atI_nat ?_
      rw [List.getElem?_map, hx]
      rfl
    have aty : atI (wy.map V.str) (0 + (i : Int) + 1) = some (.str y) := by
      have e : 0 + (i : Int) + 1 = ((i + 1 : Nat) : Int) := by omega
      rw [e]
      refine atI_nat ?_
      rw [List.getElem?_map, hy]
      rfl
    have hb1 := t1 _ _ hb
    -- the links
    refine ⟨_, rfl, p, _, 2, _, rfl, rfl, t1.seq hL, rfl, la, rfl, ⟨_, sm_tup t1 hX⟩, for_tup (K := K) (a := la) (xs := xs) (fun j σ H' => Same Hb H' ∧ ∃ (cv : V) (c : Option (Str × Int)), (∃ u6 u7, σ = [some (.ref p), some (.ref b), some (.ref D), some (.int m), some (.int (0 + (i : Int))), some cv, u6, u7]) ∧ Dp K H' cv (chD c) ∧
      (∀ z h, c = some (z, h) → OpenIn L x y z h) ∧ (c = none → ∀ (j' : Nat) l, j' < j → L.links[j']? = some l → l.one = x → l.oth = y → ∀ n < L.winds.length, ∀ q, l.ts[n]? ≠ some (some q)))
        ⟨Same.refl _, .non, none, ⟨_, _, rfl⟩, .non, (fun z h q => by cases q), fun _ j' l q => absurd q (Nat.not_lt_zero _)⟩ (fun j σ H' _ q => sm_tup (t1.trans q.1) hX) ?_ ?_⟩
    · rintro j xv σ Hc hxv ⟨f1, cv, c, ⟨u6', u7', rfl⟩, hcv, hc1, hc2⟩
      obtain ⟨d, g1, g2⟩ := dpa_get hd hxv
      obtain ⟨l, g3, rfl⟩ := get_map g1
      have lk := ok.ok.lk l (List.mem_of_getElem? g3)
      have t2 := t1.trans f1
      obtain ⟨ca, ys, rfl, hca, hys⟩ := dp_tup (dp_sm t2 _ _ g2)
      obtain ⟨y1, y2, y3, y4, rfl, _, hz2, hz3, hz4⟩ := dpa_4 hys
      obtain rfl := dp_str hz2
      obtain rfl := dp_str hz3
      obtain ⟨ta, ts, rfl, hts, htd⟩ := dp_tup hz4
      have hw2 := sm_tup t2 hwt
      refine ⟨_, rfl, p, _, 0, _, rfl, rfl, t2.seq hL, rfl, wd, _, rfl, .inr hw2, ((L.winds.map V.str).length : Int), rfl, (by omega), (by omega),
        for_it walk_range (fun n σ H' => Same Hc H' ∧ ∃ (cv : V) (c : Option (Str × Int)), (∃ u7, σ = [some (.ref p), some (.ref b), some (.ref D), some (.int m), some (.int (0 + (i : Int))), some cv, some (.ref ca), u7]) ∧ Dp K H' cv (chD c) ∧ (∀ z h, c = some (z, h) → OpenIn L x y z h) ∧
          (c = none → (∀ (j' : Nat) l, j' < j → L.links[j']? = some l → l.one = x → l.oth = y → ∀ n < L.winds.length, ∀ q, l.ts[n]? ≠ some (some q)) ∧ (l.one = x → l.oth = y → ∀ n' < n, ∀ q, l.ts[n']? ≠ some (some q))))
          ⟨Same.refl _, cv, c, ⟨_, rfl⟩, hcv, hc1, fun e => ⟨hc2 e, fun _ _ n' q => absurd q (Nat.not_lt_zero _)⟩⟩ (fun _ _ _ _ _ => trivial) ?_ ?_⟩
      · rintro n nn σ Hd He hn ⟨f2, cv, c, ⟨u7'', rfl⟩, hcv, hc1, hc2⟩ ⟨rfl, rfl⟩
        rw [Int.toNat_natCast, wm2] at hn
        have f3 := f1.trans f2
        have hca2 := sm_tup f2 hca
        have hts2 := sm_tup f2 hts
        have hb2 := f3 _ _ hb1
        have hn2 : n < l.ts.length := by rw [lk.ts]; exact hn
        have hq : l.ts[n]? = some (l.ts[n]'hn2) := List.getElem?_eq_getElem _
        generalize l.ts[n]'hn2 = pr at hq
        obtain ⟨pv', hp1, hp2⟩ := dpa_at htd (i := n) (d := prD pr) (by rw [List.getElem?_map, hq]; rfl)
        have hp3 := dp_sm f2 _ _ hp2
        have atn : atI ts (0 + (n : Int)) = some pv' := by
          rw [Int.zero_add]
          exact atI_nat hp1
        refine ⟨_, rfl, 1, rfl, 3, rfl, ca, _, rfl, hca2, ?_, fun q1 hq1 => ?_⟩
        · rintro ⟨q, _⟩
          have q2 : (1 : Nat) = 0 := q
          omega
        have ecut : cutV [y1, .str l.one, .str l.oth, .ref ta] (some 1) (some 3) = [.str l.one, .str l.oth] := rfl
        rw [ecut]
        have u1 := sm_up (o := .tup [.str l.one, .str l.oth]) hq1
        refine ⟨_, rfl, _, rfl, b, _, _, _, rfl, rfl, SqL.of (u1 _ _ hb2), atx, _, rfl, _, rfl, _, _, rfl, rfl, b, _, _, _, rfl, rfl, SqL.of (u1 _ _ hb2), aty, (by show 2 ≤ sizeLine; decide), fun q2 hq2 => ?_⟩
        have u2 := u1.trans (sm_up (o := .tup [.str x, .str y]) hq2)
        have q12 : q1 ≠ q2 := ne_of_none upd_same hq2
        refine ⟨prS (l.one, l.oth), prS (x, y), .tup (SqT.of (by rw [upd_ne q12]; exact upd_same)) (.cons (.str _) (.cons (.str _) .nil)), .tup (SqT.of upd_same) (.cons (.str _) (.cons (.str _) .nil)), prS_plain _, prS_plain _, prS_depth _, decide ((l.one, l.oth) = (x, y)), (by rw [prS_eqv]), ?_⟩
        have f4 := f2.trans u2
        have keep : (l.one = x → l.oth = y → c = none → ∀ q, pr ≠ some q) → (fun (σ : L2.St) (H' : Hp) => Same Hc H' ∧ ∃ (cv : V) (c : Option (Str × Int)), (∃ u7, σ = [some (.ref p), some (.ref b), some (.ref D), some (.int m), some (.int (0 + (i : Int))), some cv, some (.ref ca), u7]) ∧ Dp K H' cv (chD c) ∧ (∀ z h, c = some (z, h) → OpenIn L x y z h) ∧
          (c = none → (∀ (j' : Nat) l, j' < j → L.links[j']? = some l → l.one = x → l.oth = y → ∀ n < L.winds.length, ∀ q, l.ts[n]? ≠ some (some q)) ∧ (l.one = x → l.oth = y → ∀ n' < n + 1, ∀ q, l.ts[n']? ≠ some (some q))))
            [some (.ref p), some (.ref b), some (.ref D), some (.int m), some (.int (0 + (i : Int))), some cv, some (.ref ca), some (.int (0 + (n : Int)))] (upd (upd He q1 (.tup [.str l.one, .str l.oth])) q2 (.tup [.str x, .str y])) := fun hh =>
          ⟨f4, cv, c, ⟨_, rfl⟩, dp_sm u2 _ _ hcv, hc1, fun e => ⟨(hc2 e).1, fun h1 h2 n' hn' q hq' => by
            by_cases en : n' = n
            · subst en
              rw [hq] at hq'
              exact hh h1 h2 e q (Option.some.inj hq')
            · exact (hc2 e).2 h1 h2 n' (by omega) q hq'⟩⟩
        by_cases ce : (l.one, l.oth) = (x, y)
        · rw [decide_eq_true ce]
          obtain ⟨ce1, ce2⟩ : l.one = x ∧ l.oth = y := by
            injection ce with c1 c2
            exact ⟨c1, c2⟩
          refine iteT ⟨_, rfl, ca, _, 3, _, rfl, rfl, sm_tup u2 hca2, rfl, _, rfl, ta, ts, _, _, rfl, rfl, sm_tup u2 hts2, atn, ?_⟩
          cases pr with
          | none =>
            obtain rfl := dp_non hp3
            refine ⟨false, rfl, iteF (iteF (keep fun _ _ _ q h => by cases h))⟩
          | some q =>
            obtain ⟨lo, hi'⟩ := q
            obtain ⟨qa, z1, z2, rfl, hqa, hz1, hz2'⟩ := dp_tup2 hp3
            obtain rfl := dp_int hz1
            obtain rfl := dp_int hz2'
            refine ⟨true, rfl, iteT ⟨_, rfl, ?_⟩⟩
            cases c with
            | some ch =>
              obtain ⟨z0, h0⟩ := ch
              obtain ⟨a9, w9, w8, rfl, _⟩ := dp_tup2 hcv
              exact ⟨false, rfl, iteF (keep fun _ _ e => by cases e)⟩
            | none =>
              obtain rfl := dp_non hcv
              refine ⟨true, rfl, iteT ?_⟩
              have hwn : L.winds[n]? = some (L.winds[n]'hn) := List.getElem?_eq_getElem _
              refine ⟨_, rfl, p, _, 0, _, rfl, rfl, ((t1.trans f3).trans u2).seq hL, rfl, _, rfl, wd, _, _, .str (L.winds[n]'hn), rfl, rfl, sm_tup ((t1.trans f3).trans u2) hwt, ?_, _, rfl, ca, _, 3, _, rfl, rfl, sm_tup u2 hca2, rfl, _, rfl, ta, ts, _, _, rfl, rfl, sm_tup u2 hts2, atn, qa, _, 1, _, rfl, rfl, sm_tup u2 hqa, rfl, (by show 2 ≤ sizeLine; decide), fun q3 hq3 => ?_⟩
              · rw [Int.zero_add]
                refine atI_nat ?_
                rw [List.getElem?_map, hwn]
                rfl
              · refine ⟨f4.trans (sm_up hq3), .ref q3, some (L.winds[n]'hn, hi'), ⟨_, rfl⟩, .tup (SqT.of upd_same) (.cons (.str _) (.cons (.int _) .nil)), fun z h e => ?_, fun e => by cases e⟩
                cases e
                exact ⟨l, List.mem_of_getElem? g3, ce1, ce2, n, lo, hwn, hq⟩
        · rw [decide_eq_false ce]
          exact iteF (iteF (keep fun h1 h2 => absurd (by rw [h1, h2]) ce))
      · rintro σ Hd ⟨f2, cv, c, ⟨u7'', rfl⟩, hcv, hc1, hc2⟩
        rw [Int.toNat_natCast, wm2] at hc2
        refine ⟨f1.trans f2, cv, c, ⟨_, _, rfl⟩, hcv, hc1, fun e j' l' hj' hl' h1 h2 n hn q => ?_⟩
        by_cases ej : j' = j
        · subst ej
          rw [g3] at hl'
          cases hl'
          exact (hc2 e).2 h1 h2 n hn q
        · exact (hc2 e).1 j' l' (by omega) hl' h1 h2 n hn q
    · rintro σ Hc ⟨f1, cv, c, ⟨u6', u7', rfl⟩, hcv, hc1, hc2⟩
      cases c with
      | none =>
        obtain ⟨l, hl1, ho, h1, h2⟩ := hed
        obtain ⟨j', hj', ej⟩ := List.mem_iff_getElem.mp hl1
        unfold opn at ho
        obtain ⟨q, hq1, hq2⟩ := List.any_eq_true.mp ho
        obtain ⟨n, hn, en'⟩ := List.mem_iff_getElem.mp hq1
        obtain ⟨q', eq'⟩ := Option.isSome_iff_exists.mp hq2
        refine absurd ?_ (hc2 rfl j' l (by omega) (by rw [← ej]; exact List.getElem?_eq_getElem _) h1 h2 n (by rw [← (ok.ok.lk l hl1).ts]; exact hn) q')
        rw [List.getElem?_eq_getElem hn, en', eq']
      | some ch =>
        obtain ⟨z, h⟩ := ch
        have o := hc1 z h rfl
        obtain ⟨ca, v1, v2, rfl, hca, hv1, hv2⟩ := dp_tup2 hcv
        obtain rfl := dp_str hv1
        obtain rfl := dp_int hv2
        have hA1 := f1 _ _ hA
        refine ⟨_, rfl, .inl ⟨rfl, _, SqL.of hA1⟩, _, rfl, _, rfl, ca, _, 0, _, rfl, rfl, hca, rfl, (by show 2 ≤ sizeLine; decide), fun q hq => ?_⟩
        have u1 := sm_up (o := .tup [.int m, .str z]) hq
        have fl := F.len
        refine ⟨D, acc, _, rfl, rfl, u1 _ _ hA1, ?_, ?_⟩
        · rw [dpa_len hda, List.length_map]
          exact small1000 (by omega)
        have tp : Tps (upd Hc q (.tup [.int m, .str z])) (upd (upd Hc q (.tup [.int m, .str z])) D (.lst (acc ++ [.ref q]))) := tps_upd (u1 _ _ hA1) trivial
        refine ⟨_, rfl, _, rfl, ca, _, 1, _, rfl, rfl, tps_sq tp (sm_tup u1 hca), rfl, _, _, rfl, rfl, ?_⟩
        obtain ⟨F2, m2⟩ := wf_more ok.ok F m0 hx hy o
        refine ⟨sm_mut ((t1.trans f1).trans u1) hD, m + h, wt ++ [(m, z)], ⟨_, _, _, _, rfl⟩, ?_, F2, m2⟩
        rw [List.map_append]
        exact lsAt_app (u1 _ _ hA1) (dpa_sm (f1.trans u1) _ _ hda) hnl (.tup (SqT.of upd_same) (.cons (.int _) (.cons (.str _) .nil))) (nl_wr (m, z))
  · rintro σ Ha ⟨t1, m, wt, ⟨u4, u5, u6, u7, rfl⟩, hls, F, m0⟩
    rw [Int.toNat_natCast] at F
    obtain ⟨acc, hA, hda, hnl⟩ := id hls
    have fl := F.len
    have al : acc.length = wt.length := by rw [dpa_len hda, List.length_map]
    refine ⟨fun σ' H' => Same H H' ∧ ∃ (v : V) (wt : List (Int × Str)), (∃ u3 u4 u5 u6 u7, σ' = [some (.ref p), some (.ref b), some v, u3, u4, u5, u6, u7]) ∧ Dp K H' v (.list (wt.map wrD)) ∧ Wfor L wy wt, ?_, ?_⟩
    · refine ⟨_, rfl, D, acc, rfl, .inl (SqL.of hA), rfl, _, rfl, ?_⟩
      by_cases e0 : wy.length = 1
      · have ed : decide (V.int (acc.length : Int) = V.int 0) = true := decide_eq_true (congrArg V.int (by omega))
        refine ite2 (fun _ => ?_) (fun z => absurd ed z)
        have hz : L.winds[0]? = some (L.winds[0]'wn1) := List.getElem?_eq_getElem _
        refine ⟨_, rfl, p, _, 0, _, rfl, rfl, t1.seq hL, rfl, wd, _, 0, .str (L.winds[0]'wn1), rfl, rfl, sm_tup t1 hwt, atI_nat (j := 0) (by rw [List.getElem?_map, hz]; rfl), (by show 2 ≤ sizeLine; decide), fun q hq => ⟨(by show 1 ≤ sizeLine; decide), fun D2 hD2 => ?_⟩⟩
        have u1 := sm_up (o := .tup [.int 0, .str (L.winds[0]'wn1)]) hq
        have qD : q ≠ D2 := ne_of_none upd_same hD2
        refine ⟨(t1.trans u1).trans (sm_up hD2), .ref D2, [(0, L.winds[0]'wn1)], ⟨_, _, _, _, _, rfl⟩, .lst (SqL.of upd_same) (.cons (.tup (SqT.of (by rw [upd_ne qD]; exact upd_same)) (.cons (.int _) (.cons (.str _) .nil))) .nil), .inl ⟨e0, _, List.getElem_mem _, rfl⟩⟩
      · have ed : ¬ decide (V.int (acc.length : Int) = V.int 0) = true := fun z => by
          have := V.int.inj (of_decide_eq_true z)
          omega
        refine ite2 (fun z => absurd z ed) (fun _ => ?_)
        exact ⟨t1, _, wt, ⟨_, _, _, _, _, rfl⟩, lsAt_dp hls, .inr ⟨by omega, m, F⟩⟩
    · rintro σ' H' ⟨t2, v, wt2, ⟨u3, u4', u5', u6', u7', rfl⟩, hv, hW⟩
      exact ⟨_, rfl, k v H' wt2 t2 hv hW⟩
end
/-! ### the plain law -/
theorem rb_rch {links : List Lk} {starts B : List Str} : ∀ (t : Nat) {z : Str}, Rb links starts B t z → Rch links starts B z
  | 0, _, h => h.elim
  | t + 1, z, h => by
    rcases h with h | ⟨y, h1, h2, h3⟩
    · exact .st h.1 h.2
    · exact .go (rb_rch t h1) h2 h3
/-- no way, no fire -/
theorem none_case {L : LandD} {f : Int × Int → Int} {wt : List (Int × Str)} {fires : List (Str × Int)} {starts goals B : List Str} {fo : List (Str × Int)} (F : FireR L.winds L.places L.links (numsOf f L.links) wt fires B fo) (hs : ∀ r ∈ fires, r.1 ∈ starts) (no : ¬ ∃ g ∈ goals, Rch L.links starts B g) :
    ∀ g ∈ goals, lookS fo g = none := fun g hg => by
  have cl : Closed L.links (numsOf f L.links) fires B (Rch L.links starts B) := by
    refine ⟨fun r hr hb => .st (hs r hr) hb, fun i l row h1 h2 h3 h4 ⟨n, hn⟩ => .go h3 ⟨l, List.mem_of_getElem? h1, ?_, rfl, rfl⟩ h4⟩
    obtain ⟨l', h5, rfl⟩ := get_map h2
    rw [h1] at h5
    cases h5
    obtain ⟨q, hq, e⟩ := List.mem_map.mp hn
    unfold opn
    refine List.any_eq_true.mpr ⟨q, hq, ?_⟩
    cases q with
    | none => cases e
    | some q => rfl
  refine lookS_none fun hm => no ⟨g, hg, ?_⟩
  obtain ⟨r, h1, h2⟩ := List.mem_map.mp hm
  rw [← h2]
  exact F.sf _ cl r h1
theorem asc_lt {wt : List (Int × Str)} (W : WOk wt) : ∀ (d i : Nat) r s, wt[i]? = some r → wt[i + d + 1]? = some s → r.1 < s.1
  | 0, i, r, s, h1, h2 => W.asc i r s h1 h2
  | d + 1, i, r, s, h1, h2 => by
    have hl : i + d + 1 < wt.length := by
      have := (List.getElem?_eq_some_iff.mp h2).1
      omega
    have h3 : wt[i + d + 1]? = some (wt[i + d + 1]'hl) := List.getElem?_eq_getElem _
    have a := asc_lt W d i r _ h1 h3
    have b := W.asc (i + d + 1) _ s h3 h2
    omega
theorem windAt_at {wt : List (Int × Str)} (W : WOk wt) {k : Nat} {r : Int × Str} (h : wt[k]? = some r) : windAt wt r.1 = some r.2 := by
  have e : wt = wt.take k ++ r :: wt.drop (k + 1) := by
    have h1 := (List.take_append_drop k wt).symm
    have hk := (List.getElem?_eq_some_iff.mp h).1
    have h2 : wt.drop k = r :: wt.drop (k + 1) := by
      rw [List.drop_eq_getElem_cons hk]
      have := (List.getElem?_eq_some_iff.mp h).2
      rw [this]
    rw [h2] at h1
    exact h1
  have ed : (wt.drop (k + 1)).filter (fun q => decide (q.1 ≤ r.1)) = [] := by
    refine List.filter_eq_nil_iff.mpr fun q hq => ?_
    obtain ⟨d, hd, eq⟩ := List.mem_iff_getElem.mp hq
    rw [List.getElem_drop] at eq
    rw [List.length_drop] at hd
    have h2 : wt[k + d + 1]? = some q := by
      have : k + d + 1 = k + 1 + d := by omega
      rw [this, ← eq]
      exact List.getElem?_eq_getElem _
    have := asc_lt W d k r q h h2
    simp
    omega
  unfold windAt
  have er : wt.filter (fun q => decide (q.1 ≤ r.1)) = (wt.take k).filter (fun q => decide (q.1 ≤ r.1)) ++ [r] := by
    conv => lhs; rw [e]
    rw [List.filter_append, List.filter_cons, ed]
    simp
  rw [er, List.getLast?_append]
  rfl
/-- one link of the way: the fire comes through in time -/
theorem along {L : LandD} (ok : LandOk L) {f : Int × Int → Int} (hf : ∀ l h : Int, l ≤ h → f (l, h) ≤ h) {wt : List (Int × Str)} (W : WOk wt) {fires : List (Str × Int)} {B : List Str} {fo : List (Str × Int)} (F : FireR L.winds L.places L.links (numsOf f L.links) wt fires B fo)
    {k : Nat} {r : Int × Str} (hr : wt[k]? = some r) {x y : Str} {h : Int} (o : OpenIn L x y r.2 h) (hb : y ∉ B) {t : Int} (ht : lookS fo x = some t) (le : t ≤ r.1) : ∃ t', lookS fo y = some t' ∧ t' ≤ r.1 + h := by
  obtain ⟨l, hl, h1, h2, n, lo, h3, h4⟩ := o
  have bd := (ok.lk l hl).bd lo h (List.mem_of_getElem? h4)
  obtain ⟨i, hi, ei⟩ := List.mem_iff_getElem.mp hl
  have hli : L.links[i]? = some l := by
    rw [← ei]
    exact List.getElem?_eq_getElem _
  have hrow : (numsOf f L.links)[i]? = some (l.ts.map (Option.map f)) := by
    unfold numsOf
    rw [List.getElem?_map, hli]
    rfl
  have hn : (l.ts.map (Option.map f))[n]? = some (some (f (lo, h))) := by
    rw [List.getElem?_map, h4]
    rfl
  have hs : r.1 ∈ chancesL wt t := by
    unfold chancesL
    by_cases e : t = r.1
    · rw [e]
      exact List.mem_cons_self
    · exact List.mem_cons_of_mem _ (List.mem_map.mpr ⟨r, List.mem_filter.mpr ⟨List.mem_of_getElem? hr, decide_eq_true (by omega)⟩, rfl⟩)
  obtain ⟨t', a, b⟩ := F.cl i l _ hli hrow (by rw [h2]; exact hb) t (by rw [h1]; exact ht) r.1 hs n r.2 _ (windAt_at W hr) h3 hn
  rw [h2] at a
  have := hf lo h bd.2.1
  exact ⟨t', a, by omega⟩
theorem wfor_ok {L : LandD} (ok : LandOk L) {starts B : List Str} {w : List Str} (Y : Way L.links L.places starts B w) (w7 : w.length ≤ 7) {wt : List (Int × Str)} (W : Wfor L w wt) : WOk wt ∧ ∀ r ∈ wt, r.2 ∈ L.winds := by
  rcases W with ⟨_, z, hz, rfl⟩ | ⟨h2, m, W⟩
  · refine ⟨⟨Nat.le_refl _, (by show 1 ≤ 40; decide), fun r hr => by cases hr; rfl, fun i r s _ hs => by simp at hs, fun r hr => ?_⟩, fun r hr => ?_⟩ <;> rw [List.mem_singleton.mp hr]
    · show (0 : Int) ≤ 100000
      decide
    · exact hz
  · have len := W.len
    refine ⟨⟨by omega, by omega, W.at0, fun i r s hr hs => ?_, fun r hr => ?_⟩, W.mem⟩
    · have hi : i + 1 < wt.length := (List.getElem?_eq_some_iff.mp hs).1
      obtain ⟨h, o, g, _⟩ := W.row i r _ _ hr (List.getElem?_eq_getElem (by omega)) (List.getElem?_eq_getElem (by omega))
      have := g s hs
      have := (open_bd ok o).1
      omega
    · have := W.most r hr
      have e : ((w.length - 1 : Nat) : Int) ≤ 6 := by omega
      omega
theorem some_case {L : LandD} (ok : LandOk L) {f : Int × Int → Int} (hf : ∀ l h : Int, l ≤ h → f (l, h) ≤ h) {starts B : List Str} {w : List Str} (Y : Way L.links L.places starts B w) (w7 : w.length ≤ 7) {wt : List (Int × Str)} (W : Wfor L w wt) {v0 z : Str} (h0 : w[0]? = some v0) (hz : lastOf w = some z)
    {fo : List (Str × Int)} (F : FireR L.winds L.places L.links (numsOf f L.links) wt [(v0, 0)] B fo) : ∃ t, lookS fo z = some t := by
  have wok := (wfor_ok ok Y w7 W).1
  obtain ⟨t0, a0, b0⟩ := F.st (v0, 0) List.mem_cons_self (Y.nb v0 (List.mem_of_getElem? h0))
  rcases W with ⟨h1, x, _, _⟩ | ⟨h2, m, W⟩
  · unfold lastOf at hz
    rw [h1] at hz
    rw [h0] at hz
    cases hz
    exact ⟨t0, a0⟩
  · have len := W.len
    have all : ∀ (k : Nat) (v : Str) (r : Int × Str), w[k]? = some v → wt[k]? = some r → ∃ t, lookS fo v = some t ∧ t ≤ r.1 := fun k => by
      induction k with
      | zero =>
        intro v r hv hr
        rw [h0] at hv
        cases hv
        exact ⟨t0, a0, by rw [W.at0 r hr]; exact b0⟩
      | succ k ih =>
        intro v r hv hr
        have hk : k + 1 < wt.length := (List.getElem?_eq_some_iff.mp hr).1
        have hr0 : wt[k]? = some (wt[k]'(by omega)) := List.getElem?_eq_getElem _
        have hv0 : w[k]? = some (w[k]'(by omega)) := List.getElem?_eq_getElem _
        obtain ⟨t, a, b⟩ := ih _ _ hv0 hr0
        obtain ⟨h, o, g, _⟩ := W.row k _ _ v hr0 hv0 hv
        obtain ⟨t', c, d⟩ := along ok hf wok F hr0 o (Y.nb v (List.mem_of_getElem? hv)) a b
        exact ⟨t', c, by rw [g r hr]; exact d⟩
    have hr0 : wt[w.length - 2]? = some (wt[w.length - 2]'(by omega)) := List.getElem?_eq_getElem _
    have hv0 : w[w.length - 2]? = some (w[w.length - 2]'(by omega)) := List.getElem?_eq_getElem _
    unfold lastOf at hz
    have e1 : w.length - 1 = w.length - 2 + 1 := by omega
    rw [e1] at hz
    obtain ⟨t, a, b⟩ := all _ _ _ hv0 hr0
    obtain ⟨h, o, _, _⟩ := W.row (w.length - 2) _ _ z hr0 hv0 hz
    obtain ⟨t', c, _⟩ := along ok hf wok F hr0 o (Y.nb z (List.mem_of_getElem? hz)) a b
    exact ⟨t', c⟩
/-! ### dict(told) -/
theorem merge_dS (v : Str → V) : ∀ (more pre : List Str), (pre ++ more).Nodup → mergeK (dS pre v) (dS more v) = dS (pre ++ more) v
  | [], pre, _ => by
    rw [List.append_nil]
    rfl
  | z :: more, pre, nd => by
    have hz : z ∉ pre := fun h => by
      have := (List.nodup_append.mp nd).2.2 z h z List.mem_cons_self
      exact this rfl
    have e : putK (dS pre v) (Sum.inr z) (v z) = dS (pre ++ [z]) v := by
      rw [dS_put hz]
      unfold dS
      rw [List.map_append]
      rfl
    have e2 : mergeK (dS pre v) (dS (z :: more) v) = mergeK (dS (pre ++ [z]) v) (dS more v) := by
      rw [← e]
      rfl
    rw [e2, merge_dS v more (pre ++ [z]) (by rw [List.append_assoc]; exact nd), List.append_assoc]
    rfl
theorem told_pairs {K : PySem.W.Frag} {H : Hp} {fo : List (Str × Int)} : ∀ {places : List Str} {vs : List V}, DpAll K H vs (places.map fun z => .tuple [.str z, oiD (lookS fo z)]) →
    ∃ ps : List Addr, vs = ps.map V.ref ∧ Paired (fun p (kv : Key × V) => SqT K H p [kV kv.1, kv.2]) ps (dS places fun z => oiV (lookS fo z))
  | [], _, h => by
    cases h
    exact ⟨[], rfl, .nil⟩
  | z :: places, _, h => by
    cases h with
    | cons h1 h2 =>
      obtain ⟨ps, rfl, hp⟩ := told_pairs h2
      obtain ⟨a, x, y, rfl, hs, hx, hy⟩ := dp_tup2 h1
      obtain rfl := dp_str hx
      have ey : y = oiV (lookS fo z) := by
        cases q : lookS fo z with
        | none =>
          rw [q] at hy
          exact dp_non hy
        | some i =>
          rw [q] at hy
          exact dp_int hy
      subst ey
      exact ⟨a :: ps, rfl, .cons hs hp⟩
section
variable {P : Program} {w : World} {K : PySem.W.Frag} {mg : Str → Option Value} {base : Heap}
def spLaw (K : PySem.W.Frag) : Sp := fun vs H Q _ => ∃ (a : Addr) (zs : List Int), vs = [.ref a] ∧ SqL K H a (zs.map V.int) ∧ ∀ H', Same H H' → Q (.bl true) H'
abbrev nmLaw : List Str := ["_law_script", "_law_numbers_here", "_law_parts_here", "_law_starts", "_law_goals", "_law_places", "_law_land", "_law_breaks", "_law_way", "_law_fires", "_law_burns", "_law_weather_here", "_law_first", "_law_last", "_law_end", "_law_place", "_law_k", "_law_goal"]
theorem scLaw : FnScope nmLaw ["_law_script"] (defScope sLaw) := ⟨rfl, rfl, rfl, by decide +kernel, rfl, by decide +kernel, by decide +kernel⟩
set_option maxHeartbeats 8000000 in
theorem ok_law (T : Txt K mg) {fd : FuncData} (F : Fd K "law" "law" sLaw (He.ga K "law") fd) : FnOk P w K mg base CX0 7 (He.ga K "law") fd ["_law_script"] (spLaw K) := by
  have G1 : Has P w K mg base 2 "_law_numbers" ["_law_script", "_law_many"] (spLawNumbers K) := ok_law_numbers T
  have G2 : Has P w K mg base 2 "_law_parts" ["_law_numbers_here", "_law_at"] (spLawParts K) := ok_law_parts T
  have G3 : Has P w K mg base 1 "_law_fourth" ["_law_parts_here", "_law_numbers_here", "_law_at"] (spLawFourth K) := ok_law_fourth T
  have G4 : Has P w K mg base 1 "_law_some" ["_law_numbers_here", "_law_at", "_law_parts_here", "_law_step"] (spLawSome K) := ok_law_some T
  have G5 : Has P w K mg base 6 "_law_made" ["_law_parts_here"] (spLawMade K) := ok_law_made T
  have G6 : Has P w K mg base 2 "_law_one_way" ["_law_parts_here", "_law_starts", "_law_goals", "_law_places"] (spOneWay K) := ok_one_way T
  have G7 : Has P w K mg base 3 "is_kept" ["land", "starts", "goals", "places"] (spIsKept K) := ok_is_kept T
  have G8 : Has P w K mg base 5 "fastest" ["land", "weather", "starts", "breaks"] (spFire K Prod.fst) := ok_fastest T
  have G9 : Has P w K mg base 5 "slowest" ["land", "weather", "starts", "breaks"] (spFire K Prod.snd) := ok_slowest T
  have G10 : Has P w K mg base 1 "_law_weather" ["_law_numbers_here", "_law_at", "_law_parts_here"] (spLawWeather K) := ok_law_weather T
  have G11 : Has P w K mg base 1 "_law_weather_for" ["_law_parts_here", "_law_way"] (spWeatherFor K) := ok_weather_for T
  refine F.ok scLaw (fun vs H Q E h => by obtain ⟨a, zs, rfl, _⟩ := h; rfl) fun cdv A outer s H vs Q E hr h => ?_
  have hu := hu_of hr
  obtain ⟨a, zs, rfl, hZ, k⟩ := h
  suffices z : ∃ t, PSs (cxOf CX0 P w K mg base nmLaw "law" (defScope sLaw) (He.ga K "law") cdv A outer s H E).nox (defBody sLaw) t ∧ t { nx := fun _ H' => Q .non H', rt := Q } (start nmLaw [.ref a]) H from by
    obtain ⟨t, h1, h2⟩ := z
    exact ⟨t, h1.nox, h2⟩
  refine ⟨_, pss_cons (ps_set (i := 1) scLaw.nd rfl (.inr rfl) (pe_f G1 hr (by rfl) (pa_cons (pv 0) (pa_cons pe_int pa_nil))))
    (pss_cons (ps_set (i := 2) scLaw.nd rfl (.inl rfl) (pe_f G2 hr (by rfl) (pa_cons (pv 1) (pa_cons pe_int pa_nil))))
    (C8.pss_cut (ps_if (PW.pt (pw_and (pt_cmpR op_eq (pe_callB call_len_seq (by rfl) T.fLen PySem.boot_len (pa_cons (pe_ix ix_list (pv 2) pe_int (fun _ _ => rfl)) pa_nil)) pe_int (nomark _)) (pw_and1 (pt_cmpR op_eq (pe_op op_mod (pe_iC (pe_ix ix_list (pv 1) pe_int (fun _ _ => rfl)) T.fInt) pe_int) pe_int (nomark _))))) (pss_one (ps_set (i := 2) scLaw.nd rfl (.inl rfl) (pe_f G3 hr (by rfl) (pa_cons (pv 2) (pa_cons (pv 1) (pa_cons pe_int pa_nil)))))) pss_nil)
    (pss_cons (ps_set (i := 3) scLaw.nd rfl (.inr rfl) (pe_f G4 hr (by rfl) (pa_cons (pv 1) (pa_cons pe_int (pa_cons (pv 2) (pa_cons pe_int pa_nil))))))
    (pss_cons (ps_set (i := 4) scLaw.nd rfl (.inl rfl) (pe_f G4 hr (by rfl) (pa_cons (pv 1) (pa_cons pe_int (pa_cons (pv 2) (pa_cons pe_int pa_nil))))))
    (pss_cons (ps_set (i := 5) scLaw.nd rfl (.inl rfl) (pe_f G4 hr (by rfl) (pa_cons (pv 1) (pa_cons pe_int (pa_cons (pv 2) (pa_cons (pe_op op_add pe_int (pe_op op_mod (pe_iC (pe_ix ix_list (pv 1) pe_int (fun _ _ => rfl)) T.fInt) pe_int)) pa_nil))))))
    (pss_cons (ps_set (i := 6) scLaw.nd rfl (.inl rfl) (pe_f G5 hr (by rfl) (pa_cons (pv 2) pa_nil)))
    (pss_cons (ps_setLc (i := 7) (own := [("_law_place", 15)]) (g := gName 15) (by rfl) scLaw.nd rfl rfl (sw_true rfl rfl rfl (by decide +kernel)) (pi_list (pv 5)) (blkOk_by (N := nmLaw) (sc := defScope sLaw) (by decide +kernel))
      (fun _ _ _ _ _ => pg_name (i := 15) scLaw.nd rfl (Or.inl rfl)) (fun _ _ _ _ _ => pts_nil) (fun _ _ _ _ _ => (pe_tup (pa_cons (pv 15) (pa_cons pe_int pa_nil)))))
    (pss_cons (ps_set (i := 8) scLaw.nd rfl (.inl rfl) (pe_f G6 hr (by rfl) (pa_cons (pv 2) (pa_cons (pv 3) (pa_cons (pv 4) (pa_cons (pv 5) pa_nil))))))
    (pss_cons (ps_if (pt_cmpR op_ne (pe_f G7 hr (by rfl) (pa_cons (pv 6) (pa_cons (pv 3) (pa_cons (pv 4) (pa_cons (pv 5) pa_nil))))) (pe_cmp (pc_isN (pv 8)) rfl) (nomark _)) (pss_one (ps_ret pe_bl)) pss_nil)
    (pss_cons (ps_if (pt_cmp (pc_isN (pv 8))) (pss_cons (ps_setLc (i := 9) (own := [("_law_k", 16)]) (g := gName 16) (by rfl) scLaw.nd rfl rfl (sw_true rfl rfl rfl (by decide +kernel)) (pi_range1 (by rfl) T.fRange (pa_cons (pe_callB call_len_seq (by rfl) T.fLen PySem.boot_len (pa_cons (pv 3) pa_nil)) pa_nil)) (blkOk_by (N := nmLaw) (sc := defScope sLaw) (by decide +kernel))
      (fun _ _ _ _ _ => pg_name (i := 16) scLaw.nd rfl (Or.inl rfl)) (fun _ _ _ _ _ => pts_nil) (fun _ _ _ _ _ => (pe_tup (pa_cons (pe_ix (ixL_ K) (pv 3) (pv 16) (fun _ _ => rfl)) (pa_cons (pe_op op_mod (pe_iC (pe_ix (ixL_ K) (pv 1) (pe_op op_add pe_int (pv 16)) (fun _ _ => rfl)) T.fInt) pe_int) pa_nil)))))
    (pss_cons (ps_set (i := 10) scLaw.nd rfl (.inr rfl) (pe_callTy (call_dictP rfl) (by rfl) T.fDict (by decide +kernel) (pa_cons (pe_f G8 hr (by rfl) (pa_cons (pv 6) (pa_cons (pe_f G10 hr (by rfl) (pa_cons (pv 1) (pa_cons pe_int (pa_cons (pv 2) pa_nil)))) (pa_cons (pv 9) (pa_cons (pv 7) pa_nil))))) pa_nil)))
    (pss_one (ps_ret (pe_callB (cr_all rfl) (by rfl) T.fAll (by decide +kernel) (pa_cons (pe_lc (own := [("_law_goal", 17)]) (g := gName 17) (by rfl) scLaw.nd (pi_list (pv 4)) (blkOk_by (N := nmLaw) (sc := defScope sLaw) (by decide +kernel))
      (fun _ _ _ _ _ => pg_name (i := 17) scLaw.nd rfl (Or.inl rfl)) (fun _ _ _ _ _ => pts_nil) (fun _ _ _ _ _ => (pe_cmp (pc_isN (pe_dget hu (pv 10) (pv 17) (fun _ _ => rfl))) rfl))) pa_nil)))))) pss_nil)
    (pss_cons (ps_set (i := 11) scLaw.nd rfl (.inl rfl) (pe_f G11 hr (by rfl) (pa_cons (pv 2) (pa_cons (pv 8) pa_nil))))
    (pss_cons (ps_set (i := 12) scLaw.nd rfl (.inl rfl) (pe_callTy (call_dictP rfl) (by rfl) T.fDict (by decide +kernel) (pa_cons (pe_f G8 hr (by rfl) (pa_cons (pv 6) (pa_cons (pv 11) (pa_cons (pe_lst (pa_cons (pe_tup (pa_cons (pe_ix ix_list (pv 8) pe_int (fun _ _ => rfl)) (pa_cons pe_int pa_nil))) pa_nil)) (pa_cons (pv 7) pa_nil))))) pa_nil)))
    (pss_cons (ps_set (i := 13) scLaw.nd rfl (.inl rfl) (pe_callTy (call_dictP rfl) (by rfl) T.fDict (by decide +kernel) (pa_cons (pe_f G9 hr (by rfl) (pa_cons (pv 6) (pa_cons (pv 11) (pa_cons (pe_lst (pa_cons (pe_tup (pa_cons (pe_ix ix_list (pv 8) pe_int (fun _ _ => rfl)) (pa_cons pe_int pa_nil))) pa_nil)) (pa_cons (pv 7) pa_nil))))) pa_nil)))
    (pss_cons (ps_set (i := 14) scLaw.nd rfl (.inl rfl) (pe_ix ix_list (pv 8) (pe_op op_sub (pe_callB call_len_seq (by rfl) T.fLen PySem.boot_len (pa_cons (pv 8) pa_nil)) pe_int) (fun _ _ => rfl)))
    (pss_one (ps_ret (pe_and (pe_cmp (pc_notN (pe_dget hu (pv 12) (pv 14) (fun _ _ => rfl))) rfl) (pe_one (pe_cmp (pc_notN (pe_dget hu (pv 13) (pv 14) (fun _ _ => rfl))) rfl))))))))))))))))))), ?_⟩
  refine ⟨_, rfl, a, zs, rfl, hZ, fun na H1 ns s1 hna N => ?_⟩
  refine ⟨_, rfl, na, ns, rfl, SqL.of hna, N, fun pa0 H2 L0 s2 hP0 ok0 w3 two => ?_⟩
  obtain ⟨n160, _, e160⟩ := num_at N 160 (by decide)
  obtain ⟨n134, _, e134⟩ := num_at N 134 (by decide)
  have hna2 := s2 _ _ hna
  obtain ⟨wd, pl, la, pp, hL, hw, _⟩ := id hP0
  refine ⟨fun σ' H' => Same H2 H' ∧ ∃ (pa : Addr) (L : LandD), σ' = [some (.ref a), some (.ref na), some (.ref pa), none, none, none, none, none, none, none, none, none, none, none, none, none, none, none] ∧ PartsAt K H' pa L ∧ PartsOk L, ?_, ?_⟩
  · have no : (fun (σ' : L2.St) (H' : Hp) => Same H2 H' ∧ ∃ (pa : Addr) (L : LandD), σ' = [some (.ref a), some (.ref na), some (.ref pa), none, none, none, none, none, none, none, none, none, none, none, none, none, none, none] ∧ PartsAt K H' pa L ∧ PartsOk L)
        [some (.ref a), some (.ref na), some (.ref pa0), none, none, none, none, none, none, none, none, none, none, none, none, none, none, none] H2 := ⟨Same.refl _, pa0, L0, rfl, hP0, ok0⟩
    refine ⟨_, rfl, pa0, _, 0, _, rfl, rfl, hL, rfl, wd, _, rfl, .inr (tupN_sq hw), rfl, _, rfl, ?_⟩
    by_cases e3 : L0.winds.length = 3
    · have ed : decide (V.int ((L0.winds.map V.str).length : Int) = V.int 3) = true := decide_eq_true (by rw [List.length_map, e3]; rfl)
      refine ite2 (fun _ => ?_) (fun z => absurd ed z)
      refine ⟨_, rfl, na, _, _, _, rfl, rfl, SqL.of hna2, e160 _ rfl, _, rfl, _, _, rfl, rfl, pgt rfl, rfl, _, rfl, ?_⟩
      refine ite2 (fun _ => ?_) (fun _ => no)
      exact ⟨_, rfl, _, rfl, pa0, L0, na, ns, rfl, hP0, ok0, e3, two, SqL.of hna2, N, fun q H' L' s3 hP' ok' => ⟨s3, q, L', rfl, hP', ok'⟩⟩
    · have ed : ¬ decide (V.int ((L0.winds.map V.str).length : Int) = V.int 3) = true := fun z => by
        have := V.int.inj (of_decide_eq_true z)
        rw [List.length_map] at this
        omega
      exact ite2 (fun z => absurd z ed) (fun _ => iteF no)
  rintro σ' H3 ⟨s3, pa, L, rfl, hP, ok⟩
  clear hL hw hP0 ok0 two
  have p7 := ok.p7
  have n3 := s3 _ _ hna2
  -- starts, goals, places
  refine ⟨_, rfl, _, rfl, na, ns, pa, L, 110, 3, rfl, SqL.of n3, N, hP, p7, (by omega), (by omega), fun sv H4 starts s4 hsv sm sl => ?_⟩
  refine ⟨_, rfl, _, rfl, na, ns, pa, L, 118, 3, rfl, SqL.of (s4 _ _ n3), N, parts_sm s4 hP, p7, (by omega), (by omega), fun gv H5 goals s5 hgv gm gl => ?_⟩
  have s45 := s4.trans s5
  refine ⟨_, rfl, _, rfl, _, rfl, na, _, _, _, rfl, rfl, SqL.of (s45 _ _ n3), e134 _ rfl, _, rfl, _, _, rfl, rfl, pgt rfl, _, _, rfl, rfl, na, ns, pa, L, 126, 2 + n134 % 4, rfl, SqL.of (s45 _ _ n3), N, parts_sm s45 hP, p7, (by omega), (by omega), fun bv H6 B s6 hbv bm bl => ?_⟩
  have hP6 := parts_sm (s45.trans s6) hP
  have n6 := (s45.trans s6) _ _ n3
  have hsv6 := dp_sm (s5.trans s6) _ _ hsv
  have hgv6 := dp_sm s6 _ _ hgv
  have t6 : Same H H6 := ((s1.trans s2).trans s3).trans (s45.trans s6)
  clear hP hsv hgv n3 hna hna2
  obtain ⟨sa, rfl, hSa⟩ := dp_strs hsv6
  obtain ⟨ga, rfl, hGa⟩ := dp_strs hgv6
  obtain ⟨ba, rfl, hBa⟩ := dp_strs hbv
  -- the land
  refine ⟨_, rfl, pa, L, rfl, hP6, ok, fun lq H7 s7 hl7 => ?_⟩
  -- the breaks
  refine ⟨_, rfl, ba, rfl, ⟨_, s7.seq hBa⟩, fun D hD => lc_data (K := K) walk_list hD (fun i => (B.take i).map fun z => srD (z, 0)) rfl (fun i hi => ?_) (fun H' e => (s7.trans e).seq hBa) ?_ ?_⟩
  · rw [List.length_map, List.length_take]
    exact small1000 (by omega)
  · rintro i x Ha Hb N2 hi e1 ⟨rfl, hx⟩ kY kN
    obtain ⟨z, h3, rfl⟩ := get_map hx
    refine ⟨rfl, _, rfl, (by show 2 ≤ sizeLine; decide), fun q hq => ?_⟩
    refine kY _ _ (srD (z, 0)) (sm_up hq) (.tup (SqT.of upd_same) (.cons (.str _) (.cons (.int _) .nil))) (nl_sr _) ?_
    rw [take_snoc h3, List.map_append]
    rfl
  intro H8 s8 hls
  rw [List.length_map, List.take_length] at hls
  have hbr : Dp K H8 (.ref D) (.list ((B.map fun z => (z, (0 : Int))).map srD)) := by
    rw [List.map_map]
    exact lsAt_dp hls
  clear hls
  have s78 := s7.trans s8
  have hP8 := parts_sm s78 hP6
  have n8 := s78 _ _ n6
  have hl8 := land_sm s8 hl7
  have hsv8 := dp_sm s78 _ _ hsv6
  have hgv8 := dp_sm s78 _ _ hgv6
  have hbv8 := dp_sm s78 _ _ hbv
  have t8 := t6.trans s78
  clear hP6 n6 hl7 hsv6 hgv6 hbv t6
  -- the way
  refine ⟨_, rfl, _, rfl, _, rfl, _, rfl, pa, L, .ref sa, .ref ga, .ref ba, starts, goals, B, rfl, hP8, ok, hsv8, hgv8, hbv8, sl, sm, fun H9 s9 no => ?_, fun wa H9 wy s9 hwa Y hend => ?_⟩
  · -- none
    refine ⟨_, rfl, _, rfl, _, rfl, _, rfl, lq, L, .ref sa, .ref ga, .ref ba, starts, goals, B, rfl, land_sm s9 hl8, ok.ok, dp_sm s9 _ _ hsv8, dp_sm s9 _ _ hgv8, dp_sm s9 _ _ hbv8, (by omega), (by omega), sm, gm, bm, fun H10 b s10 hb => ?_⟩
    obtain rfl : b = true := hb.mpr no
    refine ⟨_, rfl, rfl, false, rfl, iteF ?_⟩
    refine ⟨_, rfl, true, rfl, iteT ?_⟩
    have s910 := s9.trans s10
    have hSa10 := (s78.trans s910).seq hSa
    have n10 := s910 _ _ n8
    refine ⟨_, rfl, sa, _, rfl, .inl hSa10, ((starts.map V.str).length : Int), rfl, (by omega), (by rw [List.length_map]; omega), fun D2 hD2 => lc_it walk_range (fun i H' => Same H10 H' ∧ ∃ fires : List (Str × Int), LsAt K H' D2 (fires.map srD) ∧ fires.length ≤ i ∧ ∀ r ∈ fires, 0 ≤ r.2 ∧ r.1 ∈ starts)
      ⟨sm_up hD2, [], ⟨[], upd_same, .nil, rfl⟩, Nat.le_refl _, fun r h => nomatch h⟩ (fun _ _ _ _ => trivial) ?_ ?_⟩
    · rintro i x Ha Hb hi ⟨t1, fires, ⟨acc, h1, h2, h3⟩, h4, h5⟩ ⟨rfl, rfl⟩
      rw [Int.toNat_natCast, List.length_map] at hi
      obtain ⟨n, _, en⟩ := num_at N (136 + i) (by omega)
      have hz : starts[i]? = some (starts[i]'hi) := List.getElem?_eq_getElem _
      refine ⟨rfl, _, rfl, _, rfl, sa, _, _, .str (starts[i]'hi), rfl, rfl, t1.seq hSa10, ?_, _, rfl, _, rfl, _, _, rfl, rfl, na, _, _, _, rfl, rfl, SqL.of (t1 _ _ n10), en _ (by omega), _, rfl, _, _, rfl, rfl, pgt rfl, (by show 2 ≤ sizeLine; decide), fun q hq => ?_⟩
      · rw [Int.zero_add]
        refine atI_nat ?_
        rw [List.getElem?_map, hz]
        rfl
      · have f1 := sm_up (o := .tup [.str (starts[i]'hi), .int ((n : Int) % 20)]) hq
        refine ⟨acc, f1 _ _ h1, ?_, sm_mut (t1.trans f1) hD2, fires ++ [(starts[i]'hi, (n : Int) % 20)], ?_, by rw [List.length_append]; exact Nat.add_le_add_right h4 1, fun r hr => ?_⟩
        · rw [dpa_len h2, List.length_map]
          exact small1000 (by omega)
        · rw [List.map_append]
          exact lsAt_app (f1 _ _ h1) (dpa_sm f1 _ _ h2) h3 (.tup (SqT.of upd_same) (.cons (.str _) (.cons (.int _) .nil))) (nl_sr _)
        · rcases List.mem_append.mp hr with hr | hr
          · exact h5 r hr
          · rw [List.mem_singleton.mp hr]
            exact ⟨by show 0 ≤ (n : Int) % 20; omega, List.getElem_mem _⟩
    rintro H11 ⟨s11, fires, hf, hfl, hfm⟩
    rw [Int.toNat_natCast, List.length_map] at hfl
    have s811 := s910.trans s11
    -- the fire
    refine ⟨_, rfl, _, rfl, _, rfl, na, ns, pa, L, rfl, SqL.of (s11 _ _ n10), N, parts_sm s811 hP8, ok.ok.wn1, fun wv H12 wt s12 hwt wok wm => ?_⟩
    have s812 := s811.trans s12
    refine ⟨_, rfl, _, rfl, lq, L, wv, .ref D2, .ref D, wt, fires, B, rfl, ⟨⟨land_sm s812 hl8, ok.ok, hwt, by have := wok.sz; omega, fun s hs => windAt_of wok wm s hs, dp_sm s12 _ _ (lsAt_dp hf), by omega, fun r hr => ⟨(hfm r hr).1, sm _ (hfm r hr).2⟩, dp_sm s812 _ _ hbr, by omega⟩, wok, wm, bm⟩, fun v H13 fo s13 hF hv => ?_⟩
    obtain ⟨ta, xs, rfl, hta, htd⟩ := dp_lst hv
    obtain ⟨ps, rfl, hps⟩ := told_pairs htd
    refine ⟨ta, ps, _, rfl, hta, hps, fun bq hbq => ?_⟩
    have em : mergeK [] (dS L.places fun z => oiV (lookS fo z)) = dS L.places fun z => oiV (lookS fo z) := merge_dS (fun z => oiV (lookS fo z)) L.places [] ok.ok.pnd
    rw [em]
    have s14 := sm_up (o := .dK (dS L.places fun z => oiV (lookS fo z))) hbq
    have s814 := (s812.trans s13).trans s14
    have hno := none_case hF (fun r hr => (hfm r hr).2) no
    have hGa14 := (s78.trans s814).seq hGa
    refine ⟨_, rfl, ga, rfl, ⟨_, hGa14⟩, fun D3 hD3 => lc_data (K := K) walk_list hD3 (fun i => List.replicate i (PyData.bool true)) rfl (fun i hi => ?_) (fun H' e => e.seq hGa14) ?_ ?_⟩
    · rw [List.length_map] at hi
      rw [List.length_replicate]
      exact small1000 (by omega)
    · rintro i x Ha Hb N2 hi e1 ⟨rfl, hx⟩ kY kN
      obtain ⟨g, h3, rfl⟩ := get_map hx
      have hg := List.mem_of_getElem? h3
      have dg : DGet Hb bq (.str g) (some .non) := by
        have e : valV (dS L.places fun z => oiV (lookS fo z)) (Sum.inr g) = some .non := by
          rw [dS_in (gm g hg), hno g hg]
          rfl
        rw [← e]
        exact DGet.k (k := Sum.inr g) (e1 _ _ upd_same)
      refine ⟨rfl, _, rfl, _, rfl, bq, .non, rfl, dg, ?_⟩
      exact kY _ _ (.bool true) (Same.refl _) (.bl _) rfl List.replicate_succ'
    · intro Ha e1 hls
      obtain ⟨acc, hA, hdp, _⟩ := hls
      have ea : acc = (List.replicate (goals.map V.str).length true).map V.bl := dpa_bools (by rw [List.map_replicate]; exact hdp)
      subst ea
      refine ⟨D3, _, rfl, SqL.of hA, ?_⟩
      rw [all_rep]
      exact k Ha ((t8.trans s814).trans e1)
  · -- a way
    obtain ⟨z, hz, hzg⟩ := hend
    have hzw : z ∈ wy := List.mem_of_getElem? hz
    have yes : ∃ g ∈ goals, Rch L.links starts B g := by
      obtain ⟨j, hj, ej⟩ := List.mem_iff_getElem.mp hzw
      exact ⟨z, hzg, rb_rch _ (way_rb Y j z (by rw [← ej]; exact List.getElem?_eq_getElem _))⟩
    have w7 : wy.length ≤ 7 := Nat.le_trans (nodup_len Y.nd Y.pl) p7
    have w1 := Y.ne
    refine ⟨_, rfl, _, rfl, _, rfl, _, rfl, lq, L, .ref sa, .ref ga, .ref ba, starts, goals, B, rfl, land_sm s9 hl8, ok.ok, dp_sm s9 _ _ hsv8, dp_sm s9 _ _ hgv8, dp_sm s9 _ _ hbv8, (by omega), (by omega), sm, gm, bm, fun H10 b s10 hb => ?_⟩
    obtain rfl : b = false := by
      cases b with
      | false => rfl
      | true => exact absurd yes (hb.mp rfl)
    refine ⟨_, rfl, rfl, false, rfl, iteF ?_⟩
    refine ⟨_, rfl, false, rfl, iteF ?_⟩
    have s910 := s9.trans s10
    have hwa10 := s10 _ _ hwa
    -- the weather
    refine ⟨_, rfl, _, rfl, pa, L, wa, wy, starts, B, rfl, parts_sm s910 hP8, ok, hwa10, Y, fun wv H11 wt s11 hwt W => ?_⟩
    obtain ⟨wok, wm⟩ := wfor_ok ok.ok Y w7 W
    have hv0 : wy[0]? = some (wy[0]'w1) := List.getElem?_eq_getElem _
    have v0p : wy[0]'w1 ∈ L.places := Y.pl _ (List.getElem_mem _)
    have s811 := s910.trans s11
    have at0 : atI (wy.map V.str) 0 = some (.str (wy[0]'w1)) := atI_nat (j := 0) (by rw [List.getElem?_map, hv0]; rfl)
    have em : ∀ fo : List (Str × Int), mergeK [] (dS L.places fun z => oiV (lookS fo z)) = dS L.places fun z => oiV (lookS fo z) := fun fo => merge_dS (fun z => oiV (lookS fo z)) L.places [] ok.ok.pnd
    have fa : ∀ {Hx Hy : Hp} {D9 q9 : Addr}, Same H11 Hx → Hx q9 = none → (upd Hx q9 (.tup [.str (wy[0]'w1), .int 0])) D9 = none → Hy = upd (upd Hx q9 (.tup [.str (wy[0]'w1), .int 0])) D9 (.lst [.ref q9]) → FireA K Hy lq L wv (.ref D9) (.ref D) wt [(wy[0]'w1, 0)] B := fun {Hx Hy D9 q9} e1 e2 e3 e4 => by
      subst e4
      have g1 := sm_up (o := .tup [.str (wy[0]'w1), .int 0]) e2
      have g2 := sm_up (o := .lst [.ref q9]) e3
      have g3 := (e1.trans g1).trans g2
      have ne : q9 ≠ D9 := ne_of_none upd_same e3
      exact ⟨⟨land_sm (s811.trans g3) hl8, ok.ok, dp_sm g3 _ _ hwt, by have := wok.sz; omega, fun s hs => windAt_of wok wm s hs, .lst (SqL.of upd_same) (.cons (.tup (SqT.of (by rw [upd_ne ne]; exact upd_same)) (.cons (.str _) (.cons (.int _) .nil))) .nil), by show 1 ≤ 900; decide,
        fun r hr => by rw [List.mem_singleton.mp hr]; exact ⟨Int.le_refl _, v0p⟩, dp_sm (s811.trans g3) _ _ hbr, by omega⟩, wok, wm, bm⟩
    -- the fastest fire
    refine ⟨_, rfl, _, rfl, _, rfl, wa, _, 0, _, rfl, rfl, SqL.of (s11 _ _ hwa10), at0, (by show 2 ≤ sizeLine; decide), fun q1 hq1 => ⟨(by show 1 ≤ sizeLine; decide), fun D1 hD1 => ⟨_, rfl, lq, L, wv, .ref D1, .ref D, wt, [(wy[0]'w1, 0)], B, rfl, fa (Same.refl _) hq1 hD1 rfl, fun v H12 fo s12 hF hv => ?_⟩⟩⟩
    have r12 := ((sm_up (o := .tup [.str (wy[0]'w1), .int 0]) hq1).trans (sm_up (o := .lst [.ref q1]) hD1)).trans s12
    obtain ⟨ta, xs, rfl, hta, htd⟩ := dp_lst hv
    obtain ⟨ps, rfl, hps⟩ := told_pairs htd
    refine ⟨ta, ps, _, rfl, hta, hps, fun f1 hf1 => ?_⟩
    rw [em fo]
    have r13 := r12.trans (sm_up (o := .dK (dS L.places fun z => oiV (lookS fo z))) hf1)
    obtain ⟨t1, ht1⟩ := some_case ok.ok (fun l h e => e) Y w7 W hv0 hz hF
    -- the slowest fire
    refine ⟨_, rfl, _, rfl, _, rfl, wa, _, 0, _, rfl, rfl, SqL.of ((s11.trans r13) _ _ hwa10), at0, (by show 2 ≤ sizeLine; decide), fun q2 hq2 => ⟨(by show 1 ≤ sizeLine; decide), fun D2 hD2 => ⟨_, rfl, lq, L, wv, .ref D2, .ref D, wt, [(wy[0]'w1, 0)], B, rfl, fa r13 hq2 hD2 rfl, fun v' H14 fo' s14 hF' hv' => ?_⟩⟩⟩
    have r14 := ((sm_up (o := .tup [.str (wy[0]'w1), .int 0]) hq2).trans (sm_up (o := .lst [.ref q2]) hD2)).trans s14
    obtain ⟨ta', xs', rfl, hta', htd'⟩ := dp_lst hv'
    obtain ⟨ps', rfl, hps'⟩ := told_pairs htd'
    refine ⟨ta', ps', _, rfl, hta', hps', fun f2 hf2 => ?_⟩
    rw [em fo']
    have r15 := r14.trans (sm_up (o := .dK (dS L.places fun z => oiV (lookS fo' z))) hf2)
    obtain ⟨t2, ht2⟩ := some_case ok.ok (fun l h e => Int.le_refl _) Y w7 W hv0 hz hF'
    have hwa15 := ((s11.trans r13).trans r15) _ _ hwa10
    have zp := Y.pl z hzw
    refine ⟨_, rfl, _, rfl, wa, _, rfl, .inl (SqL.of hwa15), _, _, rfl, rfl, wa, _, _, .str z, rfl, rfl, SqL.of hwa15, at_last hz, ?_⟩
    have d1 : DGet (upd H14 f2 (.dK (dS L.places fun z => oiV (lookS fo' z)))) f1 (.str z) (some (.int t1)) := by
      have e : valV (dS L.places fun z => oiV (lookS fo z)) (Sum.inr z) = some (.int t1) := by
        rw [dS_in zp, ht1]
        rfl
      rw [← e]
      exact DGet.k (k := Sum.inr z) (r15 _ _ upd_same)
    have d2 : DGet (upd H14 f2 (.dK (dS L.places fun z => oiV (lookS fo' z)))) f2 (.str z) (some (.int t2)) := by
      have e : valV (dS L.places fun z => oiV (lookS fo' z)) (Sum.inr z) = some (.int t2) := by
        rw [dS_in zp, ht2]
        rfl
      rw [← e]
      exact DGet.k (k := Sum.inr z) upd_same
    refine ⟨_, rfl, _, rfl, f1, _, rfl, d1, true, rfl, iteT ⟨_, rfl, _, rfl, f2, _, rfl, d2, ?_⟩⟩
    exact k _ (((t8.trans s811).trans r13).trans r15)
end
/-! ### the head: facts by names -/
def fn : List He.DefD := [
  ⟨("check_places", none), "check_places", "check_places", defArgs sCheckPlaces, defBody sCheckPlaces, defScope sCheckPlaces, [], []⟩,
  ⟨("nexts", none), "nexts", "nexts", defArgs sNexts, defBody sNexts, defScope sNexts, [], []⟩,
  ⟨("has_way", none), "has_way", "has_way", defArgs sHasWay, defBody sHasWay, defScope sHasWay, [], []⟩,
  ⟨("is_kept", none), "is_kept", "is_kept", defArgs sIsKept, defBody sIsKept, defScope sIsKept, [], []⟩,
  ⟨("is_name", none), "is_name", "is_name", defArgs sIsName, defBody sIsName, defScope sIsName, [], []⟩,
  ⟨("are_different", none), "are_different", "are_different", defArgs sAreDifferent, defBody sAreDifferent, defScope sAreDifferent, [], []⟩,
  ⟨("require", none), "require", "require", defArgs sRequire, defBody sRequire, defScope sRequire, [], []⟩,
  ⟨("checked_times", none), "checked_times", "checked_times", defArgs sCheckedTimes, defBody sCheckedTimes, defScope sCheckedTimes, [], []⟩,
  ⟨("check_winds", none), "check_winds", "check_winds", defArgs sCheckWinds, defBody sCheckWinds, defScope sCheckWinds, [], []⟩,
  ⟨("check_changes", none), "check_changes", "check_changes", defArgs sCheckChanges, defBody sCheckChanges, defScope sCheckChanges, [], []⟩,
  ⟨("blowing", none), "blowing", "blowing", defArgs sBlowing, defBody sBlowing, defScope sBlowing, [], []⟩,
  ⟨("chances", none), "chances", "chances", defArgs sChances, defBody sChances, defScope sChances, [], []⟩,
  ⟨("least_numbers", none), "least_numbers", "least_numbers", defArgs sLeastNumbers, defBody sLeastNumbers, defScope sLeastNumbers, [], []⟩,
  ⟨("most_numbers", none), "most_numbers", "most_numbers", defArgs sMostNumbers, defBody sMostNumbers, defScope sMostNumbers, [], []⟩,
  ⟨("is_number", none), "is_number", "is_number", defArgs sIsNumber, defBody sIsNumber, defScope sIsNumber, [], []⟩,
  ⟨("check_numbers", none), "check_numbers", "check_numbers", defArgs sCheckNumbers, defBody sCheckNumbers, defScope sCheckNumbers, [], []⟩,
  ⟨("check_rows", none), "check_rows", "check_rows", defArgs sCheckRows, defBody sCheckRows, defScope sCheckRows, [], []⟩,
  ⟨("least_minutes", none), "least_minutes", "least_minutes", defArgs sLeastMinutes, defBody sLeastMinutes, defScope sLeastMinutes, [], []⟩,
  ⟨("caught", none), "caught", "caught", defArgs sCaught, defBody sCaught, defScope sCaught, [], []⟩,
  ⟨("spread", none), "spread", "spread", defArgs sSpread, defBody sSpread, defScope sSpread, [], []⟩,
  ⟨("check_fire", none), "check_fire", "check_fire", defArgs sCheckFire, defBody sCheckFire, defScope sCheckFire, [], []⟩,
  ⟨("told", none), "told", "told", defArgs sTold, defBody sTold, defScope sTold, [], []⟩,
  ⟨("burning", none), "burning", "burning", defArgs sBurning, defBody sBurning, defScope sBurning, [], []⟩,
  ⟨("fastest", none), "fastest", "fastest", defArgs sFastest, defBody sFastest, defScope sFastest, [], []⟩,
  ⟨("slowest", none), "slowest", "slowest", defArgs sSlowest, defBody sSlowest, defScope sSlowest, [], []⟩,
  ⟨("_law_row", none), "_law_row", "_law_row", defArgs sLawRow, defBody sLawRow, defScope sLawRow, [], []⟩,
  ⟨("_law_numbers", none), "_law_numbers", "_law_numbers", defArgs sLawNumbers, defBody sLawNumbers, defScope sLawNumbers, [], []⟩,
  ⟨("_law_parts", none), "_law_parts", "_law_parts", defArgs sLawParts, defBody sLawParts, defScope sLawParts, [], []⟩,
  ⟨("_law_weather", none), "_law_weather", "_law_weather", defArgs sLawWeather, defBody sLawWeather, defScope sLawWeather, [], []⟩,
  ⟨("_law_names", none), "_law_names", "_law_names", defArgs sLawNames, defBody sLawNames, defScope sLawNames, [], []⟩,
  ⟨("_law_made", none), "_law_made", "_law_made", defArgs sLawMade, defBody sLawMade, defScope sLawMade, [], []⟩,
  ⟨("_law_some", none), "_law_some", "_law_some", defArgs sLawSome, defBody sLawSome, defScope sLawSome, [], []⟩,
  ⟨("_law_open", none), "_law_open", "_law_open", defArgs sLawOpen, defBody sLawOpen, defScope sLawOpen, [], []⟩,
  ⟨("_law_one_way", none), "_law_one_way", "_law_one_way", defArgs sLawOneWay, defBody sLawOneWay, defScope sLawOneWay, [], []⟩,
  ⟨("_law_weather_for", none), "_law_weather_for", "_law_weather_for", defArgs sLawWeatherFor, defBody sLawWeatherFor, defScope sLawWeatherFor, [], []⟩,
  ⟨("_law_fourth", none), "_law_fourth", "_law_fourth", defArgs sLawFourth, defBody sLawFourth, defScope sLawFourth, [], []⟩,
  ⟨("law", none), "law", "law", defArgs sLaw, defBody sLaw, defScope sLaw, [], []⟩,
  ⟨("Land", some "are_ends"), "are_ends", "Land.are_ends", defArgs sAreEnds, defBody sAreEnds, defScope sAreEnds, [], []⟩,
  ⟨("Land", some "checked_link"), "checked_link", "Land.checked_link", defArgs sCheckedLink, defBody sCheckedLink, defScope sCheckedLink, [], []⟩,
  ⟨("Land", some "checked_path"), "checked_path", "Land.checked_path", defArgs sCheckedPath, defBody sCheckedPath, defScope sCheckedPath, [], []⟩,
  ⟨("Land", some "check_place"), "check_place", "Land.check_place", defArgs sCheckPlace, defBody sCheckPlace, defScope sCheckPlace, [], []⟩,
  ⟨("Land", some "check_wind"), "check_wind", "Land.check_wind", defArgs sCheckWind, defBody sCheckWind, defScope sCheckWind, [], []⟩,
  ⟨("Land", some "__init__"), "__init__", "Land.__init__", defArgs sLandInit, defBody sLandInit, defScope sLandInit, [], [("links", .adr (kwAt "links")), ("paths", .adr (kwAt "paths"))]⟩]
def fa : List He.Fa := [
  .glo "check_places",
  .glo "nexts",
  .glo "has_way",
  .glo "is_kept",
  .glo "is_name",
  .glo "are_different",
  .glo "require",
  .glo "checked_times",
  .glo "check_winds",
  .glo "check_changes",
  .glo "blowing",
  .glo "chances",
  .glo "least_numbers",
  .glo "most_numbers",
  .glo "is_number",
  .glo "check_numbers",
  .glo "check_rows",
  .glo "least_minutes",
  .glo "caught",
  .glo "spread",
  .glo "check_fire",
  .glo "told",
  .glo "burning",
  .glo "fastest",
  .glo "slowest",
  .glo "_law_row",
  .glo "_law_numbers",
  .glo "_law_parts",
  .glo "_law_weather",
  .glo "_law_names",
  .glo "_law_made",
  .glo "_law_some",
  .glo "_law_open",
  .glo "_law_one_way",
  .glo "_law_weather_for",
  .glo "_law_fourth",
  .glo "law",
  .meth "Land" "are_ends",
  .meth "Land" "checked_link",
  .meth "Land" "checked_path",
  .meth "Land" "check_place",
  .meth "Land" "check_wind",
  .mkr "Land",
  .cls "Land",
  .glo "Land",
  .noat "Land" "winds",
  .noat "Land" "places",
  .noat "Land" "links",
  .noat "Land" "paths",
  .free "any",
  .free "list",
  .free "len",
  .free "all",
  .free "enumerate",
  .free "tuple",
  .free "sorted",
  .free "zip",
  .free "min",
  .free "max",
  .free "abs",
  .free "int",
  .free "range",
  .free "dict",
  .int "MOST_NAME_CHARS" 12,
  .int "MOST_WINDS" 4,
  .int "MOST_PLACES" 24,
  .int "MOST_LINKS" 60,
  .int "MOST_PATHS" 60,
  .int "MOST_MINUTES" 1000,
  .int "MOST_CHANGES" 40,
  .int "MOST_MINUTE" 100000,
  .str "NAME_CHARS" "abcdefghijklmnopqrstuvwxyz0123456789"]
/-! ### the property link_names -/
def fnWat (K : PySem.W.Frag) (a : Addr) : He.FnW := match K.lookup a with
  | some ⟨_, _, .func fd, _⟩ => some (fd.name, fd.qualname, fd.params, fd.body, fd.scope, fd.globals, fd.closure, fd.builtins)
  | _ => none
def lnVal : He.FnW := some ("link_names", "Land.link_names", defArgs sLinkNames, .stmts (defBody sLinkNames), defScope sLinkNames, mainGlobals, [], builtinsNs)
def lnB (K : PySem.W.Frag) : Bool := PySem.W.keepIn K (.ref (gAd K)) && ((match K.lookup (gAd K) with
  | some ⟨_, _, .func fd, _⟩ => PySem.W.codeIn K fd.code "Land.link_names" && He.dflB K fd.defaults []
  | _ => false) && (He.eqO (PySem.W.findIn K (.ref (CL K)) "link_names") (some (some (.ref (He.ma K (CL K) "link_names")))) &&
  (He.eqO (PySem.W.specialIn K (.ref (He.ma K (CL K) "link_names")) "__get__") (some (some (.builtin "property.__get__"))) &&
  (decide (PySem.W.takesIn K (.ref (He.ma K (CL K) "link_names")) = some true) && (match PySem.W.recIn K (He.ma K (CL K) "link_names") "property" with
  | some (.ref g :: _) => decide (g = gAd K)
  | _ => false)))))
structure PropSays (K : PySem.W.Frag) : Prop where
  fd : ∃ fd, Fd K "link_names" "Land.link_names" sLinkNames (gAd K) fd
  pr : PropOf K (CL K) "link_names" (He.ma K (CL K) "link_names") (gAd K)
theorem prop_says {K : PySem.W.Frag} (e : fnWat K (gAd K) = lnVal) (c : lnB K = true) : PropSays K := by
  obtain ⟨kp, c⟩ := He.ba c
  obtain ⟨c0, c⟩ := He.ba c
  obtain ⟨c1, c⟩ := He.ba c
  obtain ⟨c2, c⟩ := He.ba c
  obtain ⟨c3, c4⟩ := He.ba c
  refine ⟨?_, He.eqO_ok c1, He.eqO_ok c2, of_decide_eq_true c3, ?_⟩
  · unfold fnWat at e
    cases q : K.lookup (gAd K) with
    | none => rw [q] at c0; cases c0
    | some o =>
      obtain ⟨oc, od, dt, osl⟩ := o
      rw [q] at c0 e
      cases dt with
      | func fd =>
        obtain ⟨n1, n2, n3, n4, n5, n6, n7, n8, n9, n10, n11, n12, n13, n14, n15⟩ := fd
        have e2 : (some (n1, n2, n3, n4, n5, n6, n7, n15) : He.FnW) = lnVal := e
        simp only [lnVal, Option.some.injEq, Prod.mk.injEq] at e2
        obtain ⟨h1, h2, h3, h4, h5, h6, h7, h8⟩ := e2
        subst h1 h2 h3 h4 h5 h6 h7 h8
        obtain ⟨k1, k2⟩ := He.ba c0
        exact ⟨_, ⟨oc, od, n8, n9, n10, n11, n12, n13, n14, osl, rfl, q, k1, He.dflB_ok k2, .inl rfl⟩, kp⟩
      | _ => cases c0
  · cases q : PySem.W.recIn K (He.ma K (CL K) "link_names") "property" with
    | none => rw [q] at c4; cases c4
    | some vs =>
      rw [q] at c4
      cases vs with
      | nil => cases c4
      | cons v r =>
        cases v with
        | ref g => exact ⟨r, by rw [of_decide_eq_true c4]⟩
        | _ => cases c4
/-! ### the Hook -/
abbrev AlE : Type := He.AlD × (He.FnW × Bool)
def obsL (g : Addr → Option Obj) : AlE := (He.obsD fa fn (He.frG g (He.asD g 6)), (fnWat (He.frG g (He.asD g 6)) (gAd (He.frG g (He.asD g 6))), lnB (He.frG g (He.asD g 6))))
def valL : AlE := (He.valD fn, (lnVal, true))
def hk : PySem.W.Hook where
  α := AlE
  obs := fun s => obsL s.heap.get?
  val := fun _ => valL
  says := fun _ h => ∃ K : PySem.W.Frag, K.In h ∧ He.SaysD fa fn K ∧ PropSays K
  of := fun _ _ e => ⟨_, He.frG_in, congrArg (fun z : AlE => z.1) e, prop_says (congrArg (fun z : AlE => z.2.1) e) (congrArg (fun z : AlE => z.2.2) e)⟩
  keeps := fun _ _ _ ⟨K, hK, c⟩ k => ⟨K, PySem.W.Frag.In.keeps hK k, c⟩
def ob (s : PySem.W.SharedT) : AlE := obsL (HandSHeadRun.getT s)
theorem ob_eq (s : PySem.W.SharedT) : ob s = hk.obs s.abs := by
  have e : HandSHeadRun.getT s = s.abs.heap.get? := funext (HandSHeadRun.getT_eq s)
  unfold ob
  rw [e] <;> rfl
abbrev R : PySem.W.OpenRow := PySem.W.OpenLaw.row PySem.Challenge.rw_everyfire_k35_whole_weathers_and_cuts
abbrev qv : Program := PySem.W.view R.prog [58]
def loose1 : List PySem.Str := ["_wall", "EveryfireError", "InvalidLand", "UnknownName", "InvalidWeather", "InvalidQuestion", "check_places", "nexts", "has_way", "is_kept", "NAME_CHARS", "MOST_NAME_CHARS", "MOST_WINDS", "MOST_PLACES"]
def loose2 : List PySem.Str := ["MOST_LINKS", "MOST_PATHS", "MOST_MINUTES", "is_name", "are_different", "require", "checked_times", "Land", "MOST_CHANGES", "MOST_MINUTE", "check_winds", "check_changes", "blowing", "chances"]
def loose3 : List PySem.Str := ["least_numbers", "most_numbers", "is_number", "check_numbers", "check_rows", "least_minutes", "caught", "spread", "check_fire", "told", "burning", "fastest", "slowest", "_law_row"]
def loose4 : List PySem.Str := ["_law_numbers", "_law_parts", "_law_weather", "_law_names", "_law_made", "_law_some", "_law_open", "_law_one_way", "_law_weather_for", "_law_fourth"]
def looseAll : List PySem.Str := loose1 ++ loose2 ++ loose3 ++ loose4
theorem run (w : World) : HandSHeadRun.RunEq R qv hk ob 4000 looseAll w := by
  intro os
  kernel_rfl
theorem txt_of {K : PySem.W.Frag} {h : Heap} {mg : Str → Option Value} (X : K.In h) (G : h.Ns mainGlobals mg) (c : He.SaysD fa fn K) (cp : PropSays K) : Txt K mg where
  dCheckPlaces := c.def_ 0
  dNexts := c.def_ 1
  dHasWay := c.def_ 2
  dIsKept := c.def_ 3
  dIsName := c.def_ 4
  dAreDifferent := c.def_ 5
  dRequire := c.def_ 6
  dCheckedTimes := c.def_ 7
  dCheckWinds := c.def_ 8
  dCheckChanges := c.def_ 9
  dBlowing := c.def_ 10
  dChances := c.def_ 11
  dLeastNumbers := c.def_ 12
  dMostNumbers := c.def_ 13
  dIsNumber := c.def_ 14
  dCheckNumbers := c.def_ 15
  dCheckRows := c.def_ 16
  dLeastMinutes := c.def_ 17
  dCaught := c.def_ 18
  dSpread := c.def_ 19
  dCheckFire := c.def_ 20
  dTold := c.def_ 21
  dBurning := c.def_ 22
  dFastest := c.def_ 23
  dSlowest := c.def_ 24
  dLawRow := c.def_ 25
  dLawNumbers := c.def_ 26
  dLawParts := c.def_ 27
  dLawWeather := c.def_ 28
  dLawNames := c.def_ 29
  dLawMade := c.def_ 30
  dLawSome := c.def_ 31
  dLawOpen := c.def_ 32
  dLawOneWay := c.def_ 33
  dLawWeatherFor := c.def_ 34
  dLawFourth := c.def_ 35
  dLaw := c.def_ 36
  gCheckPlaces := He.glo_ok X G (c.fact 0 (f := .glo "check_places") rfl)
  gNexts := He.glo_ok X G (c.fact 1 (f := .glo "nexts") rfl)
  gHasWay := He.glo_ok X G (c.fact 2 (f := .glo "has_way") rfl)
  gIsKept := He.glo_ok X G (c.fact 3 (f := .glo "is_kept") rfl)
  gIsName := He.glo_ok X G (c.fact 4 (f := .glo "is_name") rfl)
  gAreDifferent := He.glo_ok X G (c.fact 5 (f := .glo "are_different") rfl)
  gRequire := He.glo_ok X G (c.fact 6 (f := .glo "require") rfl)
  gCheckedTimes := He.glo_ok X G (c.fact 7 (f := .glo "checked_times") rfl)
  gCheckWinds := He.glo_ok X G (c.fact 8 (f := .glo "check_winds") rfl)
  gCheckChanges := He.glo_ok X G (c.fact 9 (f := .glo "check_changes") rfl)
  gBlowing := He.glo_ok X G (c.fact 10 (f := .glo "blowing") rfl)
  gChances := He.glo_ok X G (c.fact 11 (f := .glo "chances") rfl)
  gLeastNumbers := He.glo_ok X G (c.fact 12 (f := .glo "least_numbers") rfl)
  gMostNumbers := He.glo_ok X G (c.fact 13 (f := .glo "most_numbers") rfl)
  gIsNumber := He.glo_ok X G (c.fact 14 (f := .glo "is_number") rfl)
  gCheckNumbers := He.glo_ok X G (c.fact 15 (f := .glo "check_numbers") rfl)
  gCheckRows := He.glo_ok X G (c.fact 16 (f := .glo "check_rows") rfl)
  gLeastMinutes := He.glo_ok X G (c.fact 17 (f := .glo "least_minutes") rfl)
  gCaught := He.glo_ok X G (c.fact 18 (f := .glo "caught") rfl)
  gSpread := He.glo_ok X G (c.fact 19 (f := .glo "spread") rfl)
  gCheckFire := He.glo_ok X G (c.fact 20 (f := .glo "check_fire") rfl)
  gTold := He.glo_ok X G (c.fact 21 (f := .glo "told") rfl)
  gBurning := He.glo_ok X G (c.fact 22 (f := .glo "burning") rfl)
  gFastest := He.glo_ok X G (c.fact 23 (f := .glo "fastest") rfl)
  gSlowest := He.glo_ok X G (c.fact 24 (f := .glo "slowest") rfl)
  gLawRow := He.glo_ok X G (c.fact 25 (f := .glo "_law_row") rfl)
  gLawNumbers := He.glo_ok X G (c.fact 26 (f := .glo "_law_numbers") rfl)
  gLawParts := He.glo_ok X G (c.fact 27 (f := .glo "_law_parts") rfl)
  gLawWeather := He.glo_ok X G (c.fact 28 (f := .glo "_law_weather") rfl)
  gLawNames := He.glo_ok X G (c.fact 29 (f := .glo "_law_names") rfl)
  gLawMade := He.glo_ok X G (c.fact 30 (f := .glo "_law_made") rfl)
  gLawSome := He.glo_ok X G (c.fact 31 (f := .glo "_law_some") rfl)
  gLawOpen := He.glo_ok X G (c.fact 32 (f := .glo "_law_open") rfl)
  gLawOneWay := He.glo_ok X G (c.fact 33 (f := .glo "_law_one_way") rfl)
  gLawWeatherFor := He.glo_ok X G (c.fact 34 (f := .glo "_law_weather_for") rfl)
  gLawFourth := He.glo_ok X G (c.fact 35 (f := .glo "_law_fourth") rfl)
  gLaw := He.glo_ok X G (c.fact 36 (f := .glo "law") rfl)
  dAreEnds := c.def_ 37
  dCheckedLink := c.def_ 38
  dCheckedPath := c.def_ 39
  dCheckPlace := c.def_ 40
  dCheckWind := c.def_ 41
  mAreEnds := He.meth_ok (c.fact 37 (f := .meth "Land" "are_ends") rfl)
  mCheckedLink := He.meth_ok (c.fact 38 (f := .meth "Land" "checked_link") rfl)
  mCheckedPath := He.meth_ok (c.fact 39 (f := .meth "Land" "checked_path") rfl)
  mCheckPlace := He.meth_ok (c.fact 40 (f := .meth "Land" "check_place") rfl)
  mCheckWind := He.meth_ok (c.fact 41 (f := .meth "Land" "check_wind") rfl)
  dInit := c.def_ 42
  dLn := cp.fd
  pLn := cp.pr
  mkL := He.mkr_ok (c.fact 42 (f := .mkr "Land") rfl)
  cl := He.cls_ok (c.fact 43 (f := .cls "Land") rfl)
  gLand := He.glo_ok X G (c.fact 44 (f := .glo "Land") rfl)
  nWinds := He.noat_ok (c.fact 45 (f := .noat "Land" "winds") rfl)
  nPlaces := He.noat_ok (c.fact 46 (f := .noat "Land" "places") rfl)
  nLinks := He.noat_ok (c.fact 47 (f := .noat "Land" "links") rfl)
  nPaths := He.noat_ok (c.fact 48 (f := .noat "Land" "paths") rfl)
  fAny := He.free_ok X G (c.fact 49 (f := .free "any") rfl)
  fList := He.free_ok X G (c.fact 50 (f := .free "list") rfl)
  fLen := He.free_ok X G (c.fact 51 (f := .free "len") rfl)
  fAll := He.free_ok X G (c.fact 52 (f := .free "all") rfl)
  fEnumerate := He.free_ok X G (c.fact 53 (f := .free "enumerate") rfl)
  fTuple := He.free_ok X G (c.fact 54 (f := .free "tuple") rfl)
  fSorted := He.free_ok X G (c.fact 55 (f := .free "sorted") rfl)
  fZip := He.free_ok X G (c.fact 56 (f := .free "zip") rfl)
  fMin := He.free_ok X G (c.fact 57 (f := .free "min") rfl)
  fMax := He.free_ok X G (c.fact 58 (f := .free "max") rfl)
  fAbs := He.free_ok X G (c.fact 59 (f := .free "abs") rfl)
  fInt := He.free_ok X G (c.fact 60 (f := .free "int") rfl)
  fRange := He.free_ok X G (c.fact 61 (f := .free "range") rfl)
  fDict := He.free_ok X G (c.fact 62 (f := .free "dict") rfl)
  iMostNameChars := He.int_ok X G (c.fact 63 (f := .int "MOST_NAME_CHARS" 12) rfl)
  iMostWinds := He.int_ok X G (c.fact 64 (f := .int "MOST_WINDS" 4) rfl)
  iMostPlaces := He.int_ok X G (c.fact 65 (f := .int "MOST_PLACES" 24) rfl)
  iMostLinks := He.int_ok X G (c.fact 66 (f := .int "MOST_LINKS" 60) rfl)
  iMostPaths := He.int_ok X G (c.fact 67 (f := .int "MOST_PATHS" 60) rfl)
  iMostMinutes := He.int_ok X G (c.fact 68 (f := .int "MOST_MINUTES" 1000) rfl)
  iMostChanges := He.int_ok X G (c.fact 69 (f := .int "MOST_CHANGES" 40) rfl)
  iMostMinute := He.int_ok X G (c.fact 70 (f := .int "MOST_MINUTE" 100000) rfl)
  sNameChars := He.str_ok X G (c.fact 71 (f := .str "NAME_CHARS" "abcdefghijklmnopqrstuvwxyz0123456789") rfl)
theorem law_facts {P : Program} {w : World} {K : PySem.W.Frag} {h : Heap} {mg : Str → Option Value} {f : Addr} (X : K.In h) (G : h.Ns mainGlobals mg) (hfa : mg ("law" : Str) = some (.ref f)) (c : He.SaysD fa fn K) (cp : PropSays K) :
    ∃ fd : FuncData, (∀ (s : Shared) (v : Value), BindsTo s fd ⟨[v], []⟩ [("_law_script", v)]) ∧ ∀ base : Heap, K.In base → base.Ns mainGlobals mg → FnOk P w K mg base CX0 7 f fd ["_law_script"] (spLaw K) := by
  have T : Txt K mg := txt_of X G c cp
  have e := hfa.symm.trans T.gLaw
  cases e
  obtain ⟨fd, F⟩ := T.dLaw
  have b := FunD.bindsA (ps := ["_law_script"]) F fun _ _ _ _ _ _ us hl => match us, hl with | [_], _ => rfl
  exact ⟨fd, fun s v => b s [v] rfl, fun base _ _ => ok_law T F⟩
end Ef
open PySem PySem.W PySem.Calls PyProof.Rows
theorem PySem.Challenge.cw_everyfire_k35_whole_weathers_and_cuts_holds : PySem.Challenge.rw_everyfire_k35_whole_weathers_and_cuts.Holds := by
  w_on; o_law
  refine HandSHeadRun.head_any (r := Ef.R) (q := Ef.qv) (H := Ef.hk) (ob := Ef.ob) (M := 4000) (loose := Ef.looseAll) (d := HandSHeadRun.topDef Ef.R.prog 58) (kwd := []) Ef.ob_eq (by kernel_rfl) (fun s => by kernel_rfl) Ef.run (by kernel_rfl) (by kernel_rfl) (by kernel_rfl) (by rfl)
    (by first | assumption | decide +kernel) (by decide +kernel) ⟨rfl, rfl, rfl, rfl, rfl, by decide +kernel⟩ ?hw ?hc
  case hw => w_witness2
  case hc =>
    refine L2.walk_ofE (l := PySem.Challenge.rw_everyfire_k35_whole_weathers_and_cuts) (n := 63) (k := 7) (x := "_law_script") (CX := L2.CX0) rfl (by decide) (by kernel_rfl) ⟨rfl, by decide, by decide⟩ ?F (fun _ _ _ _ z => z)
    intro w mg fa h Y G hmg0
    obtain ⟨K, KX, c, cp⟩ := Y
    have hmg : mg ("law" : PySem.Str) = some (.ref fa) := by
      have e : (HandSHeadRun.topDef Ef.R.prog 58).name = ("law" : PySem.Str) := by kernel_rfl
      rw [← e]
      exact hmg0
    obtain ⟨fd, hb, hF⟩ := Ef.law_facts (P := (PySem.Challenge.rw_everyfire_k35_whole_weathers_and_cuts).prog) (w := w) KX G hmg c cp
    exact ⟨K, fd, Ef.spLaw K, KX, hb, fun H a ns _ _ hS => ⟨a, ns, rfl, hS, fun _ _ => rfl⟩, hF⟩
